/- Texts of the law LogmTrees, one behind the other. -/
import Derived.Test.YtkoncepjfgnjlaaGreatLogmTreesM3
import Derived.Test.YtkoncepjfgnjlaaGreatLogmTreesM2
import Derived.Test.YtkoncepjfgnjlaaGreatLogmTreesM1
/- A tree of lists that lead into one another: New, and what a tree tells. -/
namespace Go.Proofs.YtkoncepjfgnjlaaGreat
attribute [local irreducible] sat
set_option linter.unusedVariables false
set_option linter.unusedSimpArgs false
set_option maxRecDepth 100000

/-- A tree that can be read. -/
structure TR (L : List HP) (t : Nat) (T : RT) (A : Option Addr) (c : Nat) (l : List Pt) : Prop where
  z : LdN L t 0 2 [.pointer T.addr, .slice A l.length c]
  i : RIn L T
  o : T.of l
  a : AscO Pt.less l
  r : Rd L A l.length l
  c1 : l.length ≤ c
  c2 : c ≤ maxLen
theorem TR.skip {X : HP} {L : List HP} {t : Nat} {T : RT} {A : Option Addr} {c : Nat} {l : List Pt} (h : TR L t T A c l) : TR (X :: L) t T A c l := ⟨h.z.skip, h.i.skip, h.o, h.a, h.r.skip, h.c1, h.c2⟩
theorem TR.app {N L : List HP} {t : Nat} {T : RT} {A : Option Addr} {c : Nat} {l : List Pt} (h : TR L t T A c l) : TR (N ++ L) t T A c l := ⟨h.z.app, h.i.app, h.o, h.a, h.r.app, h.c1, h.c2⟩
theorem TR.good {L : List HP} {t : Nat} {T : RT} {A : Option Addr} {c : Nat} {l : List Pt} (h : TR L t T A c l) : T.good := ⟨l, h.o, h.a⟩
theorem New1_ctr (p : Pt) (L : List HP) : Ctr Tryz.prog 96 #[p.v] L fun v L' => v = .bool (!goodP p) ∧ L' = L := by
  refine Ctr_of (fn := Tryz.f96) (n := 6) Tryz.func96 rfl rfl rfl ?_
  intro g F
  refine GN ?_
  refine G_region ?_
  refine GE (eff_box rfl) ?_; rintro _ _ ⟨b1, rfl, rfl⟩
  refine GQ (ev_assign rfl) ?_
  refine GO_nil ?_
  refine GN ?_
  refine G_region ?_
  refine GQ (ev_loadN rfl LnA) ?_
  refine GE (eff_call rfl (KGood_ctr p _)) ?_; rintro _ _ ⟨rfl, rfl⟩
  refine GQ (ev_not rfl) ?_
  refine GQ (ev_assign rfl) ?_
  refine GO_nil ?_
  refine GN ?_
  refine G_ret rfl (.tmp rfl .nil) EnA ⟨rfl, rfl⟩
theorem any_bad {l : List Pt} : (l.any fun p => !goodP p) = true ↔ ¬ ∀ p ∈ l, goodP p = true := by
  simp [List.any_eq_true]
theorem nodup_asc (l : List Pt) : AscO Pt.less (srtO Pt.less l) ↔ l.Nodup :=
  ⟨fun h => (srtO_perm l).nodup_iff.1 (h.nodup sto_less), fun h => srtO_asc sto_less h⟩
/-- Whether there is a tree of some points. -/
def newC (l : List Pt) : Int := if ∀ p ∈ l, goodP p = true then (if l.Nodup then 0 else 5) else 1
theorem RNew_ctr (A : Option Addr) (n c : Nat) (l : List Pt) (L : List HP) (hl : Rd L A n l) (hn : n ≤ 100000) (hc : n ≤ c) (h0 : newC l = 0) :
    Ctr Tryz.prog 65 #[.slice A n c] L fun v L' => ∃ t T A' c' N, v = .tuple #[.pointer (some ⟨t, 0, none⟩), .int .i64 0] ∧ L' = N ++ L ∧ TR (N ++ L) t T A' c' (srtO Pt.less l) := by
  have h1 : l.length = n := hl.len (by decide)
  have hg : ∀ p ∈ l, goodP p = true := by
    unfold newC at h0; split at h0
    · assumption
    · cases h0
  have hd : l.Nodup := by
    unfold newC at h0; rw [if_pos hg] at h0; split at h0
    · assumption
    · cases h0
  have ha := (nodup_asc l).2 hd
  have hcf := fun M (h : Rd M A n l) => ContainsFunc_ctr 96 [] [] (fun p => !goodP p) A n c l M h (by omega) (fun a => New1_ctr a M)
  rw [show (l.any fun p => !goodP p) = false by rw [Bool.eq_false_iff]; exact fun h => any_bad.1 h hg] at hcf
  have hsl : (srtO Pt.less l).length = n := by rw [srtO_length, h1]
  have hso : Ctr Tryz.prog 97 #[.slice A n c, .func (.func 64) #[] #[]] L fun v L' => ∃ B e, v = .slice B n e ∧ (0 < n → ∃ b, B = some ⟨b, 0, none⟩) ∧ n ≤ e ∧ e ≤ maxLen ∧ L' = own 28 3 B n e (flat (srtO Pt.less l)) :: L := by
    have := (SortO_ctr sto_less less_ls A n c l L hl (by omega) hc).made
    unfold MadeC at this
    rw [hsl] at this
    exact this
  refine Ctr_of (fn := Tryz.f65) (n := 20) Tryz.func65 rfl rfl rfl ?_
  intro g F
  refine GN ?_
  refine G_region ?_
  refine GQ (ev_assign rfl) ?_
  refine GQ (ev_assign rfl) ?_
  refine GO_nil ?_
  refine GN ?_
  refine G_region ?_
  refine GQ (ev_move rfl) ?_
  refine GE (eff_call rfl (hcf _ hl.skip)) ?_; rintro _ _ ⟨rfl, rfl⟩
  refine GO_nil ?_
  refine GN ?_
  refine G_cond_f rfl rfl ?_
  refine GN ?_
  refine G_region ?_
  refine GQ (ev_move rfl) ?_
  refine GE (eff_call rfl (Ctr.frame [F] hso (fun _ s => s))) ?_; rintro _ _ ⟨L1, ⟨B, e, rfl, hB, k1, k2, rfl⟩, rfl⟩
  refine GQ (ev_assign rfl) ?_
  refine GO_nil ?_
  have hr : ∀ L', Rd (own 28 3 B n e (flat (srtO Pt.less l)) :: L') B n (srtO Pt.less l) := fun L' => Rc.own (by rw [flat_length, hsl]; rfl) hB
  refine GN ?_
  refine G_region ?_
  refine GQ (ev_move rfl) ?_
  refine GE (eff_call rfl (UniqueO_ctr less_ls sto_less B n e (srtO Pt.less l) _ (by repeat' first | exact hr _ | apply Rd.skip) (by omega))) ?_; rintro _ _ ⟨m, hm, C, c2, rfl, hC, rfl⟩
  refine GQ (ev_len rfl) ?_
  refine GQ (ev_move rfl) ?_
  refine GQ (ev_len rfl) ?_
  (first | refine GQ (ev_lssN rfl rfl) ?_ | refine GQ (ev_lss rfl rfl) ?_)
  refine GO_nil ?_
  have hm' : m = srtO Pt.less l := hm.elim (fun h => h.2) (fun h => absurd ha h.1)
  subst hm'
  rw [hsl]
  refine GN ?_
  refine G_cond_f rfl (decide_eq_false (by omega)) ?_
  have hb := build_ctr n B n e (srtO Pt.less l) (own 28 3 B n e (flat (srtO Pt.less l)) :: L) (Nat.le_refl _) (hr L) (by omega) k1 k2
  refine GN ?_
  refine G_region ?_
  refine GQ (ev_move rfl) ?_
  refine GE (eff_call rfl (Ctr.frame [own 28 3 C n c2 (flat (srtO Pt.less l)), F] hb EpA)) ?_; rintro _ _ ⟨L1, ⟨T, N1, rfl, oT, rfl, rT⟩, rfl⟩
  refine GQ (ev_move rfl) ?_
  refine GQ (ev_build rfl rfl) ?_
  refine GE (eff_box rfl) ?_; rintro _ _ ⟨b19, rfl, rfl⟩
  refine GQ (ev_assign rfl) ?_
  refine GQ (ev_assign rfl) ?_
  refine GO_nil ?_
  refine GN ?_
  have e9 : blk b19 99 [.pointer T.addr, .slice B n e] :: (N1 ++ own 28 3 B n e (flat (srtO Pt.less l)) :: L) = (blk b19 99 [.pointer T.addr, .slice B n e] :: (N1 ++ [own 28 3 B n e (flat (srtO Pt.less l))])) ++ L := by simp
  refine G_ret (L' := blk b19 99 [.pointer T.addr, .slice B n e] :: (N1 ++ own 28 3 B n e (flat (srtO Pt.less l)) :: L)) rfl (.tmp rfl (.tmp rfl .nil)) EpA ⟨b19, T, B, e, _, rfl, e9, ?_⟩
  rw [← e9]
  exact ⟨by rw [hsl]; exact LdN.blk rfl, rT.skip, oT, ha, by rw [hsl]; exact Rd.skip (Rd.app (hr L)), by rw [hsl]; exact k1, k2⟩
section
variable {t : Nat} {T : RT} {A : Option Addr} {c : Nat} {l : List Pt} {L : List HP} (h : TR L t T A c l)
include h
theorem tpoints_ctr : Ctr Tryz.prog 56 #[.pointer (some ⟨t, 0, none⟩)] L fun v L' => v = .slice A l.length c ∧ L' = L := by
  have z1 : Ld L ⟨t, 0 + 1, none⟩ (.slice A l.length c) := h.z.at_ (i := 1) rfl
  refine Ctr_of (fn := Tryz.f56) (n := 9) Tryz.func56 rfl rfl rfl ?_
  intro g F
  refine GN ?_
  refine G_region ?_
  refine GQ (ev_assign rfl) ?_
  refine GO_nil ?_
  refine GN ?_
  refine G_region ?_
  refine GQ (ev_move rfl) ?_
  (first | refine GQ (ev_eqlNil rfl rfl) ?_ | refine GQ (ev_eqlPtr rfl rfl) ?_)
  refine GO_nil ?_
  refine GN ?_
  refine G_cond_f rfl rfl ?_
  refine GN ?_
  refine G_region ?_
  refine GQ (ev_move rfl) ?_
  (first | refine GQ (ev_nilCheck rfl) ?_ | refine GQ (ev_nilCheckF (by simp) rfl) ?_)
  refine GQ (ev_fieldAddr rfl) ?_
  refine GQ (ev_load rfl LdA) ?_
  refine GQ (ev_assign rfl) ?_
  refine GO_nil ?_
  refine GN ?_
  refine G_ret rfl (.tmp rfl .nil) EnA ⟨rfl, rfl⟩
theorem tLen_ctr : Ctr Tryz.prog 28 #[.pointer (some ⟨t, 0, none⟩)] L fun v L' => v = .int .i64 (l.length : Nat) ∧ L' = L := by
  refine Ctr_of (fn := Tryz.f28) (n := 6) Tryz.func28 rfl rfl rfl ?_
  intro g F
  refine GN ?_
  refine G_region ?_
  refine GQ (ev_assign rfl) ?_
  refine GO_nil ?_
  refine GN ?_
  refine G_region ?_
  refine GQ (ev_move rfl) ?_
  refine GE (eff_call rfl (tpoints_ctr h.skip)) ?_; rintro _ _ ⟨rfl, rfl⟩
  refine GQ (ev_len rfl) ?_
  refine GQ (ev_assign rfl) ?_
  refine GO_nil ?_
  refine GN ?_
  refine G_ret rfl (.tmp rfl .nil) EnA ⟨rfl, rfl⟩
theorem tPoints_ctr (hn : l.length ≤ 1000000) : Ctr Tryz.prog 39 #[.pointer (some ⟨t, 0, none⟩)] L fun v L' => Made 28 l L v L' := by
  refine Ctr_of (fn := Tryz.f39) (n := 6) Tryz.func39 rfl rfl rfl ?_
  intro g F
  refine GN ?_
  refine G_region ?_
  refine GQ (ev_assign rfl) ?_
  refine GO_nil ?_
  refine GN ?_
  refine G_region ?_
  refine GQ (ev_move rfl) ?_
  refine GE (eff_call rfl (tpoints_ctr h.skip)) ?_; rintro _ _ ⟨rfl, rfl⟩
  refine GE (eff_call rfl (Clone_ctr A _ c l _ h.r.skip hn)) ?_; rintro _ _ ⟨B, e, rfl, hB, rfl⟩
  refine GQ (ev_assign rfl) ?_
  refine GO_nil ?_
  refine GN ?_
  exact G_ret (L' := own 28 3 B l.length e (flat l) :: L) rfl (.tmp rfl .nil) EpA ⟨B, e, rfl, hB, rfl⟩
/-- Where to begin. -/
def begR (b : Bx) (T : RT) : RT := if b.y1 ≤ b.y2 then T else .nil
theorem tbegin_ctr (b : Bx) : Ctr Tryz.prog 79 #[.pointer (some ⟨t, 0, none⟩), .agg #[.int .i64 b.x1, .int .i64 b.x2, .int .i64 b.y1, .int .i64 b.y2]] L fun v L' => v = .agg #[.pointer (begR b T).addr, .int .i64 ((begR b T).arr.pts.countP (belowF b.y1) : Nat), .int .i64 ((begR b T).arr.pts.countP (upToF b.y2) : Nat)] ∧ L' = L := by
  have z0 : Ld L ⟨t, 0 + 0, none⟩ (.pointer T.addr) := h.z.at_ (i := 0) rfl
  have hin := h.i
  have ho := h.o.ok.1
  cases hT : T with
  | nil =>
    have e : begR b RT.nil = .nil := by unfold begR; split <;> rfl
    rw [e]
    subst hT
    refine Ctr_of (fn := Tryz.f79) (n := 47) Tryz.func79 rfl rfl rfl ?_
    intro g F
    refine GN ?_
    refine G_region ?_
    refine GE (eff_box rfl) ?_; rintro _ _ ⟨b3, rfl, rfl⟩
    refine GE eff_alloc ?_; rintro _ _ ⟨b4, rfl, rfl⟩
    refine GO_nil ?_
    refine GN ?_
    refine G_region ?_
    refine GQ (ev_move rfl) ?_
    (first | refine GQ (ev_eqlNil rfl rfl) ?_ | refine GQ (ev_eqlPtr rfl rfl) ?_)
    refine GQ (ev_move rfl) ?_
    refine GO_yes rfl rfl rfl rfl ?_
    refine GQ (ev_move rfl) ?_
    refine GO_yes rfl rfl rfl rfl ?_
    (first | refine GQ (ev_nilCheck rfl) ?_ | refine GQ (ev_nilCheckF (by simp) rfl) ?_)
    refine GO_yes rfl rfl rfl rfl ?_
    refine GQ (ev_fieldAddr rfl) ?_
    refine GO_yes rfl rfl rfl rfl ?_
    refine GQ (ev_load rfl LdA) ?_
    refine GO_yes rfl rfl rfl rfl ?_
    (first | refine GQ (ev_eqlNil rfl rfl) ?_ | refine GQ (ev_eqlPtr rfl rfl) ?_)
    refine GQ (ev_pick_f rfl rfl rfl) ?_
    refine GQ (ev_move rfl) ?_
    refine GO_no rfl rfl rfl rfl ?_
    refine GO_no rfl rfl rfl rfl ?_
    refine GO_no rfl rfl rfl rfl ?_
    refine GO_no rfl rfl rfl rfl ?_
    refine GO_no rfl rfl rfl rfl ?_
    refine GQ (ev_pick_t rfl rfl rfl) ?_
    refine GO_nil ?_
    refine GN ?_
    refine G_cond_t rfl rfl ?_
    refine GN ?_
    refine G_region ?_
    refine GQ (ev_build rfl rfl) ?_
    refine GE (eff_storeN rfl rfl rfl rfl UpA) ?_; rintro _ _ ⟨rfl, rfl⟩
    refine GO_nil ?_
    refine GN ?_
    refine G_ret rfl (.cell rfl (loadN_run LnA) .nil) EnA ⟨rfl, rfl⟩
  | node d q a u v lo hi' =>
    subst hT
    have z5 : Ld L ⟨t, 0 + 0, none⟩ (.pointer (some ⟨d, 0, none⟩)) := z0
    have z6 : Ld L ⟨d, 0 + 0, none⟩ (.pointer q) := hin.1.at_ (i := 0) rfl
    by_cases hy : b.y1 ≤ b.y2
    · rw [show begR b (RT.node d q a u v lo hi') = RT.node d q a u v lo hi' from if_pos hy]
      refine Ctr_of (fn := Tryz.f79) (n := 47) Tryz.func79 rfl rfl rfl ?_
      intro g F
      refine GN ?_
      refine G_region ?_
      refine GE (eff_box rfl) ?_; rintro _ _ ⟨b3, rfl, rfl⟩
      refine GE eff_alloc ?_; rintro _ _ ⟨b4, rfl, rfl⟩
      refine GO_nil ?_
      refine GN ?_
      refine G_region ?_
      refine GQ (ev_move rfl) ?_
      (first | refine GQ (ev_eqlNil rfl rfl) ?_ | refine GQ (ev_eqlPtr rfl rfl) ?_)
      refine GQ (ev_move rfl) ?_
      refine GO_yes rfl rfl rfl rfl ?_
      refine GQ (ev_move rfl) ?_
      refine GO_yes rfl rfl rfl rfl ?_
      (first | refine GQ (ev_nilCheck rfl) ?_ | refine GQ (ev_nilCheckF (by simp) rfl) ?_)
      refine GO_yes rfl rfl rfl rfl ?_
      refine GQ (ev_fieldAddr rfl) ?_
      refine GO_yes rfl rfl rfl rfl ?_
      refine GQ (ev_load rfl LdA) ?_
      refine GO_yes rfl rfl rfl rfl ?_
      (first | refine GQ (ev_eqlNil rfl rfl) ?_ | refine GQ (ev_eqlPtr rfl rfl) ?_)
      refine GQ (ev_pick_f rfl rfl rfl) ?_
      refine GQ (ev_move rfl) ?_
      refine GO_yes rfl rfl rfl rfl ?_
      refine GQ (ev_fieldAddr rfl) ?_
      refine GO_yes rfl rfl rfl rfl ?_
      refine GQ (ev_load rfl LdA) ?_
      refine GO_yes rfl rfl rfl rfl ?_
      refine GQ (ev_fieldAddr rfl) ?_
      refine GO_yes rfl rfl rfl rfl ?_
      refine GQ (ev_load rfl LdA) ?_
      refine GO_yes rfl rfl rfl rfl ?_
      refine GQ (ev_gtr rfl rfl) ?_
      refine GQ (ev_pick_f rfl rfl rfl) ?_
      refine GO_nil ?_
      refine GN ?_
      refine G_cond_f rfl (decide_eq_false (by omega)) ?_
      refine GN ?_
      refine G_draw (.q 0 (.q 1 (.q 2 (.q 3 (.q 4 (.q 5 (.q 6 (.q 7 (.q 8 (.q 9 (.q 10 (.q 11 (.q 12 (.q 14 (.q 15 (.q 16 (.q 17 (.q 18 (.q 19 (.q 20 (.q 21 (.q 22 (.e 13 (.e 23 (.q 24 (.e 25 .nil)))))))))))))))))))))))))) (by kernel_rfl) (by kernel_rfl) ?_
      refine RM rfl (ev_move rfl) ?_
      (first | refine RM rfl (ev_nilCheck rfl) ?_ | refine RM rfl (ev_nilCheckF (by simp) rfl) ?_)
      refine RM rfl (ev_fieldAddr rfl) ?_
      refine RQ rfl (ev_load rfl LdA) ?_
      refine RM rfl (ev_move rfl) ?_
      (first | refine RM rfl (ev_nilCheck rfl) ?_ | refine RM rfl (ev_nilCheckF (by simp) rfl) ?_)
      refine RM rfl (ev_fieldAddr rfl) ?_
      refine RQ rfl (ev_load rfl LdA) ?_
      (first | refine RM rfl (ev_nilCheck rfl) ?_ | refine RM rfl (ev_nilCheckF (by simp) rfl) ?_)
      refine RM rfl (ev_fieldAddr rfl) ?_
      refine RQ rfl (ev_load rfl LdA) ?_
      refine RM rfl (ev_fieldAddr rfl) ?_
      refine RQ rfl (ev_load rfl LdA) ?_
      refine RM rfl (ev_move rfl) ?_
      (first | refine RM rfl (ev_nilCheck rfl) ?_ | refine RM rfl (ev_nilCheckF (by simp) rfl) ?_)
      refine RM rfl (ev_fieldAddr rfl) ?_
      refine RQ rfl (ev_load rfl LdA) ?_
      (first | refine RM rfl (ev_nilCheck rfl) ?_ | refine RM rfl (ev_nilCheckF (by simp) rfl) ?_)
      refine RM rfl (ev_fieldAddr rfl) ?_
      refine RQ rfl (ev_load rfl LdA) ?_
      refine RM rfl (ev_fieldAddr rfl) ?_
      refine RQ rfl (ev_load rfl LdA) ?_
      refine RS_e (RE_eff rfl rfl rfl (eff_call rfl (Place_ctr q a b.y1 _ (by repeat' first | exact hin.2.1 | apply ArrIn.skip) ho)) ?_); rintro _ _ ⟨rfl, rfl⟩; refine ⟨_, fun _ s => s, ExA, ?_⟩
      refine RS_e (RE_eff rfl rfl rfl (eff_call rfl (Past_ctr q a b.y2 _ (by repeat' first | exact hin.2.1 | apply ArrIn.skip) ho)) ?_); rintro _ _ ⟨rfl, rfl⟩; refine ⟨_, fun _ s => s, ExA, ?_⟩
      refine RM rfl (ev_build rfl rfl) ?_
      refine RS_e (RE_last (by kernel_rfl) rfl rfl rfl (eff_storeN rfl rfl rfl rfl UpA) ?_); rintro _ _ ⟨rfl, rfl⟩
      refine GN ?_
      refine G_ret rfl (.cell rfl (loadN_run LnA) .nil) EnA ⟨rfl, rfl⟩
    · rw [show begR b (RT.node d q a u v lo hi') = .nil from if_neg hy]
      refine Ctr_of (fn := Tryz.f79) (n := 47) Tryz.func79 rfl rfl rfl ?_
      intro g F
      refine GN ?_
      refine G_region ?_
      refine GE (eff_box rfl) ?_; rintro _ _ ⟨b3, rfl, rfl⟩
      refine GE eff_alloc ?_; rintro _ _ ⟨b4, rfl, rfl⟩
      refine GO_nil ?_
      refine GN ?_
      refine G_region ?_
      refine GQ (ev_move rfl) ?_
      (first | refine GQ (ev_eqlNil rfl rfl) ?_ | refine GQ (ev_eqlPtr rfl rfl) ?_)
      refine GQ (ev_move rfl) ?_
      refine GO_yes rfl rfl rfl rfl ?_
      refine GQ (ev_move rfl) ?_
      refine GO_yes rfl rfl rfl rfl ?_
      (first | refine GQ (ev_nilCheck rfl) ?_ | refine GQ (ev_nilCheckF (by simp) rfl) ?_)
      refine GO_yes rfl rfl rfl rfl ?_
      refine GQ (ev_fieldAddr rfl) ?_
      refine GO_yes rfl rfl rfl rfl ?_
      refine GQ (ev_load rfl LdA) ?_
      refine GO_yes rfl rfl rfl rfl ?_
      (first | refine GQ (ev_eqlNil rfl rfl) ?_ | refine GQ (ev_eqlPtr rfl rfl) ?_)
      refine GQ (ev_pick_f rfl rfl rfl) ?_
      refine GQ (ev_move rfl) ?_
      refine GO_yes rfl rfl rfl rfl ?_
      refine GQ (ev_fieldAddr rfl) ?_
      refine GO_yes rfl rfl rfl rfl ?_
      refine GQ (ev_load rfl LdA) ?_
      refine GO_yes rfl rfl rfl rfl ?_
      refine GQ (ev_fieldAddr rfl) ?_
      refine GO_yes rfl rfl rfl rfl ?_
      refine GQ (ev_load rfl LdA) ?_
      refine GO_yes rfl rfl rfl rfl ?_
      refine GQ (ev_gtr rfl rfl) ?_
      refine GQ (ev_pick_f rfl rfl rfl) ?_
      refine GO_nil ?_
      refine GN ?_
      refine G_cond_t rfl (decide_eq_true (by omega)) ?_
      refine GN ?_
      refine G_region ?_
      refine GQ (ev_build rfl rfl) ?_
      refine GE (eff_storeN rfl rfl rfl rfl UpA) ?_; rintro _ _ ⟨rfl, rfl⟩
      refine GO_nil ?_
      refine GN ?_
      refine G_ret rfl (.cell rfl (loadN_run LnA) .nil) EnA ⟨rfl, rfl⟩
end
end Go.Proofs.YtkoncepjfgnjlaaGreat
/- Arrays that lead into one another: a small living one, which is sound. -/
namespace Go.Proofs.YtkoncepjfgnjlaaGreat
attribute [local irreducible] sat
set_option linter.unusedVariables false
set_option linter.unusedSimpArgs false
set_option maxRecDepth 100000

/-- How many points of an array come ahead of one. -/
def aheadF (p : Pt) (low : Bool) (q : Pt) : Bool := decide (up q p < 0) || (decide (up q p = 0) && low)
theorem ahead_ctr (q : Option Addr) (t : Arr) (p : Pt) (low : Bool) (L : List HP) (h : ArrIn L q t) (hm : t.es.length ≤ 100000) :
    Ctr Tryz.prog 123 #[.pointer q, .agg #[.int .i64 p.id, .int .i64 p.x, .int .i64 p.y], .bool low] L fun v L' => v = .int .i64 (t.pts.countP (aheadF p low) : Nat) ∧ L' = L := by
  have hpl : t.pts.length = t.es.length := List.length_map ..
  refine Ctr_of (fn := Tryz.f123) (n := 35) Tryz.func123 rfl rfl rfl ?_
  intro g F
  refine GN ?_
  refine G_region ?_
  refine GE (eff_box rfl) ?_; rintro _ _ ⟨b4, rfl, rfl⟩
  refine GQ (ev_assign rfl) ?_
  refine GO_nil ?_
  refine GN ?_
  refine G_region ?_
  refine GQ (ev_assign rfl) ?_
  refine GO_nil ?_
  refine GN ?_
  refine G_region ?_
  refine GQ (ev_move rfl) ?_
  refine GE (eff_call rfl (entries_ctr q t _ (by repeat' first | assumption | apply ArrIn.skip))) ?_; rintro _ _ ⟨⟨A, c, rfl, hr, hc, hc2⟩, rfl⟩
  refine GQ (ev_len rfl) ?_
  refine GQ (ev_move rfl) ?_
  refine GO_nil ?_
  refine GN ?_
  refine G_loop (ι := Nat) (fun k => [(2, .bool low), (4, .pointer (some ⟨b4, 0, none⟩)), (7, .int .i64 ((t.pts.take k).countP (aheadF p low) : Nat)), (12, .slice A t.es.length c), (13, .int .i64 (t.es.length : Nat)), (14, .int .i64 (k : Nat))]) (fun _ => blk b4 28 [.int .i64 p.id, .int .i64 p.x, .int .i64 p.y] :: F :: L) (fun k => k ≤ t.es.length) (fun k => t.es.length - k) 0 (Nat.zero_le _) ⟨rfl, rfl, rfl, rfl, rfl, rfl, trivial⟩ EnA ?_
  intro k hk
  have hcl : (t.pts.take k).countP (aheadF p low) ≤ k := Nat.le_trans List.countP_le_length (List.length_take_le _ _)
  refine GN ?_
  refine G_region ?_
  (first | refine GQ (ev_lssN rfl rfl) ?_ | refine GQ (ev_lss rfl rfl) ?_)
  refine GO_nil ?_
  refine GN ?_
  refine G_cond rfl (fun h1 => ?_) (fun h1 => ?_)
  · obtain ⟨bb, o, rfl, hx⟩ := hr.at_ (by omega)
    have hg : t.es[k]? = some t.es[k] := List.getElem?_eq_getElem (by omega)
    have hs := take_countP_succ (aheadF p low) t.pts k t.es[k].p (by simp [Arr.pts, hg])
    have h2 := hx _ _ hg
    generalize t.es[k] = e at *
    have h3 : LdN (blk b4 28 [.int .i64 p.id, .int .i64 p.x, .int .i64 p.y] :: F :: L) bb (o + k * 5) 5 [.int .i64 e.p.id, .int .i64 e.p.x, .int .i64 e.p.y, .int .i64 e.low, .int .i64 e.high] := h2
    refine GN ?_
    refine G_region ?_
    (first | refine GQ (ev_indexAddrN rfl rfl NgA) ?_ | refine GQ (ev_indexAddr rfl rfl NgA NgA) ?_)
    refine GQ (ev_loadN rfl LnA) ?_
    refine GE eff_alloc ?_; rintro _ _ ⟨b9, rfl, rfl⟩
    refine GE (eff_storeN rfl rfl rfl rfl UpA) ?_; rintro _ _ ⟨rfl, rfl⟩
    refine GO_nil ?_
    refine GN ?_
    refine G_region ?_
    refine GQ (ev_fieldAddr rfl) ?_
    refine GQ (ev_loadN rfl LnA) ?_
    refine GQ (ev_loadN rfl LnA) ?_
    refine GE (eff_call rfl (up_ctr e.p p _)) ?_; rintro _ _ ⟨rfl, rfl⟩
    refine GQ (ev_assign rfl) ?_
    refine GO_nil ?_
    by_cases q1 : up e.p p < 0
    · refine GN ?_
      refine G_region ?_
      refine GQ (ev_move rfl) ?_
      (first | refine GQ (ev_lssN (q := 0) rfl rfl) ?_ | refine GQ (ev_lss rfl rfl) ?_)
      refine GQ (ev_move rfl) ?_
      refine GO_no rfl rfl rfl (decide_eq_true q1) ?_
      refine GO_no rfl rfl rfl (decide_eq_true q1) ?_
      refine GO_no rfl rfl rfl (decide_eq_true q1) ?_
      refine GO_undef rfl rfl rfl ?_
      refine GO_no rfl rfl rfl (decide_eq_true q1) ?_
      refine GQ (ev_pick_t rfl (decide_eq_true q1) rfl) ?_
      refine GO_nil ?_
      refine GN ?_
      refine G_cond_t rfl rfl ?_
      refine GN ?_
      refine G_region ?_
      refine GQ (ev_move rfl) ?_
      (first | refine GQ (ev_addN (q := 1) rfl rfl NgA) ?_ | refine GQ (ev_add rfl rfl NgA) ?_)
      refine GQ (ev_assign rfl) ?_
      refine GO_nil ?_
      refine GN ?_
      refine G_region ?_
      (first | refine GQ (ev_addN (q := 1) rfl rfl NgA) ?_ | refine GQ (ev_add rfl rfl NgA) ?_)
      refine GQ (ev_move rfl) ?_
      refine GO_nil ?_
      refine GN ?_
      exact G_round (k + 1) (by omega) (by omega) ⟨rfl, rfl, by rw [hs]; simp [aheadF, q1]; rfl, rfl, rfl, rfl, trivial⟩ EnA
    · by_cases q2 : up e.p p = 0
      · cases low with
        | true =>
          refine GN ?_
          refine G_region ?_
          refine GQ (ev_move rfl) ?_
          (first | refine GQ (ev_lssN (q := 0) rfl rfl) ?_ | refine GQ (ev_lss rfl rfl) ?_)
          refine GQ (ev_move rfl) ?_
          refine GO_yes rfl rfl rfl (decide_eq_false q1) ?_
          refine GQ (ev_move rfl) ?_
          refine GO_yes rfl rfl rfl (decide_eq_false q1) ?_
          refine GQ (ev_eql rfl rfl) ?_
          refine GO_yes rfl rfl rfl (decide_eq_false q1) ?_
          refine GQ (ev_move rfl) ?_
          refine GO_yes rfl rfl rfl (decide_eq_true q2) ?_
          refine GQ (ev_move rfl) ?_
          refine GO_yes rfl rfl rfl (decide_eq_false q1) ?_
          refine GQ (ev_pick_t rfl (decide_eq_true q2) rfl) ?_
          refine GQ (ev_pick_f rfl (decide_eq_false q1) rfl) ?_
          refine GO_nil ?_
          refine GN ?_
          refine G_cond_t rfl rfl ?_
          refine GN ?_
          refine G_region ?_
          refine GQ (ev_move rfl) ?_
          (first | refine GQ (ev_addN (q := 1) rfl rfl NgA) ?_ | refine GQ (ev_add rfl rfl NgA) ?_)
          refine GQ (ev_assign rfl) ?_
          refine GO_nil ?_
          refine GN ?_
          refine G_region ?_
          (first | refine GQ (ev_addN (q := 1) rfl rfl NgA) ?_ | refine GQ (ev_add rfl rfl NgA) ?_)
          refine GQ (ev_move rfl) ?_
          refine GO_nil ?_
          refine GN ?_
          exact G_round (k + 1) (by omega) (by omega) ⟨rfl, rfl, by rw [hs]; simp [aheadF, q2]; rfl, rfl, rfl, rfl, trivial⟩ EnA
        | false =>
          refine GN ?_
          refine G_region ?_
          refine GQ (ev_move rfl) ?_
          (first | refine GQ (ev_lssN (q := 0) rfl rfl) ?_ | refine GQ (ev_lss rfl rfl) ?_)
          refine GQ (ev_move rfl) ?_
          refine GO_yes rfl rfl rfl (decide_eq_false q1) ?_
          refine GQ (ev_move rfl) ?_
          refine GO_yes rfl rfl rfl (decide_eq_false q1) ?_
          refine GQ (ev_eql rfl rfl) ?_
          refine GO_yes rfl rfl rfl (decide_eq_false q1) ?_
          refine GQ (ev_move rfl) ?_
          refine GO_yes rfl rfl rfl (decide_eq_true q2) ?_
          refine GQ (ev_move rfl) ?_
          refine GO_yes rfl rfl rfl (decide_eq_false q1) ?_
          refine GQ (ev_pick_t rfl (decide_eq_true q2) rfl) ?_
          refine GQ (ev_pick_f rfl (decide_eq_false q1) rfl) ?_
          refine GO_nil ?_
          refine GN ?_
          refine G_cond_f rfl rfl ?_
          refine GN ?_
          refine G_region ?_
          (first | refine GQ (ev_addN (q := 1) rfl rfl NgA) ?_ | refine GQ (ev_add rfl rfl NgA) ?_)
          refine GQ (ev_move rfl) ?_
          refine GO_nil ?_
          refine GN ?_
          exact G_round (k + 1) (by omega) (by omega) ⟨rfl, rfl, by rw [hs]; simp [aheadF, q2]; rfl, rfl, rfl, rfl, trivial⟩ EnA
      · refine GN ?_
        refine G_region ?_
        refine GQ (ev_move rfl) ?_
        (first | refine GQ (ev_lssN (q := 0) rfl rfl) ?_ | refine GQ (ev_lss rfl rfl) ?_)
        refine GQ (ev_move rfl) ?_
        refine GO_yes rfl rfl rfl (decide_eq_false q1) ?_
        refine GQ (ev_move rfl) ?_
        refine GO_yes rfl rfl rfl (decide_eq_false q1) ?_
        refine GQ (ev_eql rfl rfl) ?_
        refine GO_yes rfl rfl rfl (decide_eq_false q1) ?_
        refine GQ (ev_move rfl) ?_
        refine GO_no rfl rfl rfl (decide_eq_false q2) ?_
        refine GO_yes rfl rfl rfl (decide_eq_false q1) ?_
        refine GQ (ev_pick_f rfl (decide_eq_false q2) rfl) ?_
        refine GQ (ev_pick_f rfl (decide_eq_false q1) rfl) ?_
        refine GO_nil ?_
        refine GN ?_
        refine G_cond_f rfl rfl ?_
        refine GN ?_
        refine G_region ?_
        (first | refine GQ (ev_addN (q := 1) rfl rfl NgA) ?_ | refine GQ (ev_add rfl rfl NgA) ?_)
        refine GQ (ev_move rfl) ?_
        refine GO_nil ?_
        refine GN ?_
        exact G_round (k + 1) (by omega) (by omega) ⟨rfl, rfl, by rw [hs]; simp [aheadF, q1, q2]; rfl, rfl, rfl, rfl, trivial⟩ EnA
  · have : k = t.es.length := by omega
    subst this
    refine GN ?_
    refine G_region ?_
    refine GQ (ev_move rfl) ?_
    refine GQ (ev_assign rfl) ?_
    refine GO_nil ?_
    refine GN ?_
    refine G_ret rfl (.tmp rfl .nil) EnA ⟨by rw [← hpl, List.take_length]; rfl, rfl⟩
theorem sound_nil (L : List HP) : Ctr Tryz.prog 101 #[.pointer none] L fun v L' => v = .bool true ∧ L' = L := by
  refine Ctr_of (fn := Tryz.f101) (n := 162) Tryz.func101 rfl rfl rfl ?_
  intro g F
  refine GN ?_
  refine G_region ?_
  refine GQ (ev_assign rfl) ?_
  refine GO_nil ?_
  refine GN ?_
  refine G_region ?_
  refine GQ (ev_move rfl) ?_
  (first | refine GQ (ev_eqlNil rfl rfl) ?_ | refine GQ (ev_eqlPtr rfl rfl) ?_)
  refine GO_nil ?_
  refine GN ?_
  refine G_cond_t rfl rfl ?_
  refine GN ?_
  refine G_region ?_
  refine GQ (ev_assign rfl) ?_
  refine GO_nil ?_
  refine GN ?_
  refine G_ret rfl (.tmp rfl .nil) EnA ⟨rfl, rfl⟩
/-- An array that was joined of none. -/
theorem sound_leaf (q : Option Addr) (es : List Ent) (L : List HP) (h : ArrIn L q (.node es .nil .nil)) (hm : es.length ≤ 100000)
    (h1 : ∀ (k : Nat) (e f : Ent), es[k]? = some e → es[k + 1]? = some f → up e.p f.p ≤ 0) (h2 : ∀ (k : Nat) (e : Ent), es[k]? = some e → e.low ≤ 0 ∧ e.high ≤ 0) :
    Ctr Tryz.prog 101 #[.pointer q] L fun v L' => v = .bool true ∧ L' = L := by
  obtain ⟨b, A, c, _, _, rfl, x1, x2, x3, x4, rfl, rfl⟩ := h
  have y0 := x1.at_ (i := 0) rfl
  have y1 := x1.at_ (i := 1) rfl
  have y2 := x1.at_ (i := 2) rfl
  refine Ctr_of (fn := Tryz.f101) (n := 162) Tryz.func101 rfl rfl rfl ?_
  intro g F
  refine GN ?_
  refine G_region ?_
  refine GQ (ev_assign rfl) ?_
  refine GO_nil ?_
  refine GN ?_
  refine G_region ?_
  refine GQ (ev_move rfl) ?_
  (first | refine GQ (ev_eqlNil rfl rfl) ?_ | refine GQ (ev_eqlPtr rfl rfl) ?_)
  refine GO_nil ?_
  refine GN ?_
  refine G_cond_f rfl rfl ?_
  refine GN ?_
  refine G_region ?_
  refine GQ (ev_move rfl) ?_
  (first | refine GQ (ev_nilCheck rfl) ?_ | refine GQ (ev_nilCheckF (by simp) rfl) ?_)
  refine GQ (ev_fieldAddr rfl) ?_
  refine GQ (ev_load rfl LdA) ?_
  (first | refine GQ (ev_neqNil rfl rfl) ?_ | refine GQ (ev_neqPtr rfl rfl) ?_)
  refine GQ (ev_move rfl) ?_
  refine GO_yes rfl rfl rfl rfl ?_
  refine GQ (ev_move rfl) ?_
  refine GO_yes rfl rfl rfl rfl ?_
  (first | refine GQ (ev_nilCheck rfl) ?_ | refine GQ (ev_nilCheckF (by simp) rfl) ?_)
  refine GO_yes rfl rfl rfl rfl ?_
  refine GQ (ev_fieldAddr rfl) ?_
  refine GO_yes rfl rfl rfl rfl ?_
  refine GQ (ev_load rfl LdA) ?_
  refine GO_yes rfl rfl rfl rfl ?_
  (first | refine GQ (ev_neqNil rfl rfl) ?_ | refine GQ (ev_neqPtr rfl rfl) ?_)
  refine GQ (ev_pick_f rfl rfl rfl) ?_
  refine GQ (ev_assign rfl) ?_
  refine GO_nil ?_
  refine GN ?_
  refine G_region ?_
  refine GQ (ev_move rfl) ?_
  (first | refine GQ (ev_nilCheck rfl) ?_ | refine GQ (ev_nilCheckF (by simp) rfl) ?_)
  refine GQ (ev_fieldAddr rfl) ?_
  refine GQ (ev_load rfl LdA) ?_
  refine GQ (ev_len rfl) ?_
  refine GQ (ev_move rfl) ?_
  refine GO_nil ?_
  refine GN ?_
  refine G_loop (ι := Nat) (fun k => [(0, .pointer (some ⟨b, 0, none⟩)), (3, .bool false), (23, .slice A es.length c), (24, .int .i64 (es.length : Nat)), (25, .int .i64 (k : Nat))]) (fun _ => F :: L) (fun k => k ≤ es.length) (fun k => es.length - k) 0 (Nat.zero_le _) ⟨rfl, rfl, rfl, rfl, rfl, trivial⟩ EnA ?_
  intro k hk
  refine GN ?_
  refine G_region ?_
  (first | refine GQ (ev_lssN rfl rfl) ?_ | refine GQ (ev_lss rfl rfl) ?_)
  refine GO_nil ?_
  refine GN ?_
  refine G_cond rfl (fun c1 => ?_) (fun c1 => ?_)
  · obtain ⟨bb, o, rfl, hx⟩ := x2.at_ (by omega)
    have hg : es[k]? = some es[k] := List.getElem?_eq_getElem (by omega)
    have w2 := hx _ _ hg
    have w3 := h2 k _ hg
    have hprev : 0 < k → ∃ f : Ent, LdN L bb (o + (k - 1) * 5) 3 [.int .i64 f.p.id, .int .i64 f.p.x, .int .i64 f.p.y] ∧ up f.p es[k].p ≤ 0 := fun h0 => by
      have hg' : es[k - 1]? = some es[k - 1] := List.getElem?_eq_getElem (by omega)
      exact ⟨es[k - 1], (hx _ _ hg').part 3 rfl, h1 (k - 1) _ _ hg' (by rw [Nat.sub_add_cancel h0]; exact hg)⟩
    generalize es[k] = e at *
    have w4 : LdN L bb (o + k * 5) 5 [.int .i64 e.p.id, .int .i64 e.p.x, .int .i64 e.p.y, .int .i64 e.low, .int .i64 e.high] := w2
    have n1 : ¬ ((0 : Int) < e.low) := by omega
    have n2 : ¬ ((0 : Int) < e.high) := by omega
    refine GN ?_
    refine G_region ?_
    refine GQ (ev_move rfl) ?_
    (first | refine GQ (ev_indexAddrN rfl rfl NgA) ?_ | refine GQ (ev_indexAddr rfl rfl NgA NgA) ?_)
    refine GQ (ev_loadN rfl LnA) ?_
    refine GE eff_alloc ?_; rintro _ _ ⟨b5, rfl, rfl⟩
    refine GQ (ev_assign rfl) ?_
    refine GE (eff_storeN rfl rfl rfl rfl UpA) ?_; rintro _ _ ⟨rfl, rfl⟩
    refine GO_nil ?_
    by_cases h0 : 0 < k
    · obtain ⟨f, w5, w6⟩ := hprev h0
      have w7 : ¬ (0 < up f.p e.p) := by omega
      refine GN ?_
      refine G_draw (.q 0 (.q 1 (.q 2 (.q 3 (.q 4 (.q 5 (.q 6 (.q 7 (.q 8 (.q 9 (.q 10 (.q 11 (.q 12 (.q 13 (.e 14 (.q 15 (.q 16 .nil))))))))))))))))) (by kernel_rfl) (by kernel_rfl) ?_
      refine RM rfl (ev_move rfl) ?_
      refine RM rfl (ev_gtr rfl rfl) ?_
      refine RM rfl (ev_move rfl) ?_
      refine RS_m_yes retB_noPanic rfl rfl rfl rfl ⟨_, rfl, (decide_eq_true (by omega))⟩ rfl (ev_move rfl) ?_
      (first | refine RS_m_yes retB_noPanic rfl rfl rfl rfl ⟨_, rfl, (decide_eq_true (by omega))⟩ rfl (ev_nilCheck rfl) ?_ | refine RS_m_yes retB_noPanic rfl rfl rfl rfl ⟨_, rfl, (decide_eq_true (by omega))⟩ rfl (ev_nilCheckF (by simp) rfl) ?_)
      refine RS_m_yes retB_noPanic rfl rfl rfl rfl ⟨_, rfl, (decide_eq_true (by omega))⟩ rfl (ev_fieldAddr rfl) ?_
      refine RS_q_yes retB_noPanic rfl rfl rfl rfl ⟨_, rfl, (decide_eq_true (by omega))⟩ rfl (ev_load rfl LdA) ?_
      refine RS_m_yes retB_noPanic rfl rfl rfl rfl ⟨_, rfl, (decide_eq_true (by omega))⟩ rfl (ev_move rfl) ?_
      (first | refine RS_m_yes retB_noPanic rfl rfl rfl rfl ⟨_, rfl, (decide_eq_true (by omega))⟩ rfl (ev_subN (q := 1) rfl rfl NgA) ?_ | refine RS_m_yes retB_noPanic rfl rfl rfl rfl ⟨_, rfl, (decide_eq_true (by omega))⟩ rfl (ev_sub rfl rfl NgA) ?_)
      (first | refine RS_m_yes retB_noPanic rfl rfl rfl rfl ⟨_, rfl, (decide_eq_true (by omega))⟩ rfl (ev_indexAddrN rfl rfl NgA) ?_ | refine RS_m_yes retB_noPanic rfl rfl rfl rfl ⟨_, rfl, (decide_eq_true (by omega))⟩ rfl (ev_indexAddr rfl rfl NgA NgA) ?_)
      refine RS_m_yes retB_noPanic rfl rfl rfl rfl ⟨_, rfl, (decide_eq_true (by omega))⟩ rfl (ev_fieldAddr rfl) ?_
      refine RS_q_yes retB_noPanic rfl rfl rfl rfl ⟨_, rfl, (decide_eq_true (by omega))⟩ rfl (ev_loadN rfl LnA) ?_
      refine RS_m_yes retB_noPanic rfl rfl rfl rfl ⟨_, rfl, (decide_eq_true (by omega))⟩ rfl (ev_fieldAddr rfl) ?_
      refine RS_q_yes retB_noPanic rfl rfl rfl rfl ⟨_, rfl, (decide_eq_true (by omega))⟩ rfl (ev_loadN rfl LnA) ?_
      refine RS_e (RE_eff_yes rfl rfl rfl ⟨_, rfl, (decide_eq_true (by omega))⟩ rfl (eff_call rfl (up_ctr f.p e.p _)) ?_); rintro _ _ ⟨rfl, rfl⟩; refine ⟨_, fun _ s => s, ExA, ?_⟩
      refine RS_m_yes retB_noPanic rfl rfl rfl rfl ⟨_, rfl, (decide_eq_true (by omega))⟩ rfl (ev_gtr rfl rfl) ?_
      refine RM rfl (ev_pick_t rfl (decide_eq_true (by omega)) rfl) ?_
      refine RS_nil ?_
      refine GN ?_
      refine G_cond_f rfl (decide_eq_false w7) ?_
      refine GN ?_
      refine G_draw (.q 0 (.q 1 (.q 2 (.q 3 (.q 4 (.q 5 (.q 6 (.q 7 (.q 8 (.q 9 (.q 10 (.q 11 (.q 12 (.q 13 (.q 14 (.q 15 (.q 16 (.e 17 (.q 18 (.q 19 (.q 20 (.q 21 (.q 22 (.q 23 (.q 24 (.q 25 (.q 26 (.e 27 (.q 28 (.q 29 .nil)))))))))))))))))))))))))))))) (by kernel_rfl) (by kernel_rfl) ?_
      refine RM rfl (ev_move rfl) ?_
      refine RM rfl (ev_move rfl) ?_
      refine RS_q_no retB_noPanic rfl rfl rfl ⟨_, rfl, rfl⟩ rfl ?_
      refine RS_q_no retB_noPanic rfl rfl rfl ⟨_, rfl, rfl⟩ rfl ?_
      refine RS_q_no retB_noPanic rfl rfl rfl ⟨_, rfl, rfl⟩ rfl ?_
      refine RS_q_no retB_noPanic rfl rfl rfl ⟨_, rfl, rfl⟩ rfl ?_
      refine RS_q_no retB_noPanic rfl rfl rfl ⟨_, rfl, rfl⟩ rfl ?_
      refine RS_q_no retB_noPanic rfl rfl rfl ⟨_, rfl, rfl⟩ rfl ?_
      refine RS_q_no retB_noPanic rfl rfl rfl ⟨_, rfl, rfl⟩ rfl ?_
      refine RM rfl (ev_pick_f rfl rfl rfl) ?_
      refine RM rfl (ev_move rfl) ?_
      refine RS_m_yes retB_noPanic rfl rfl rfl rfl ⟨_, rfl, rfl⟩ rfl (ev_fieldAddr rfl) ?_
      refine RS_q_yes retB_noPanic rfl rfl rfl rfl ⟨_, rfl, rfl⟩ rfl (ev_load rfl LdA) ?_
      refine RS_m_yes retB_noPanic rfl rfl rfl rfl ⟨_, rfl, rfl⟩ rfl (ev_move rfl) ?_
      (first | refine RS_m_yes retB_noPanic rfl rfl rfl rfl ⟨_, rfl, rfl⟩ rfl (ev_nilCheck rfl) ?_ | refine RS_m_yes retB_noPanic rfl rfl rfl rfl ⟨_, rfl, rfl⟩ rfl (ev_nilCheckF (by simp) rfl) ?_)
      refine RS_m_yes retB_noPanic rfl rfl rfl rfl ⟨_, rfl, rfl⟩ rfl (ev_fieldAddr rfl) ?_
      refine RS_q_yes retB_noPanic rfl rfl rfl rfl ⟨_, rfl, rfl⟩ rfl (ev_load rfl LdA) ?_
      refine RS_e (RE_eff_yes rfl rfl rfl ⟨_, rfl, rfl⟩ rfl (eff_call rfl (size_ctr none .nil _ rfl)) ?_); rintro _ _ ⟨rfl, rfl⟩; refine ⟨_, fun _ s => s, ExA, ?_⟩
      refine RS_m_yes retB_noPanic rfl rfl rfl rfl ⟨_, rfl, rfl⟩ rfl (ev_gtr rfl rfl) ?_
      refine RM rfl (ev_pick_f rfl rfl rfl) ?_
      refine RM rfl (ev_move rfl) ?_
      refine RS_m_yes retB_noPanic rfl rfl rfl rfl ⟨_, rfl, (decide_eq_false n1)⟩ rfl (ev_fieldAddr rfl) ?_
      refine RS_q_yes retB_noPanic rfl rfl rfl rfl ⟨_, rfl, (decide_eq_false n1)⟩ rfl (ev_load rfl LdA) ?_
      refine RS_m_yes retB_noPanic rfl rfl rfl rfl ⟨_, rfl, (decide_eq_false n1)⟩ rfl (ev_move rfl) ?_
      (first | refine RS_m_yes retB_noPanic rfl rfl rfl rfl ⟨_, rfl, (decide_eq_false n1)⟩ rfl (ev_nilCheck rfl) ?_ | refine RS_m_yes retB_noPanic rfl rfl rfl rfl ⟨_, rfl, (decide_eq_false n1)⟩ rfl (ev_nilCheckF (by simp) rfl) ?_)
      refine RS_m_yes retB_noPanic rfl rfl rfl rfl ⟨_, rfl, (decide_eq_false n1)⟩ rfl (ev_fieldAddr rfl) ?_
      refine RS_q_yes retB_noPanic rfl rfl rfl rfl ⟨_, rfl, (decide_eq_false n1)⟩ rfl (ev_load rfl LdA) ?_
      refine RS_e (RE_eff_yes rfl rfl rfl ⟨_, rfl, (decide_eq_false n1)⟩ rfl (eff_call rfl (size_ctr none .nil _ rfl)) ?_); rintro _ _ ⟨rfl, rfl⟩; refine ⟨_, fun _ s => s, ExA, ?_⟩
      refine RS_m_yes retB_noPanic rfl rfl rfl rfl ⟨_, rfl, (decide_eq_false n1)⟩ rfl (ev_gtr rfl rfl) ?_
      refine RM rfl (ev_pick_f rfl (decide_eq_false n1) rfl) ?_
      refine RS_nil ?_
      refine GN ?_
      refine G_cond_f rfl (decide_eq_false n2) ?_
      refine GN ?_
      refine G_draw (.q 0 (.q 1 (.q 2 (.q 3 (.q 4 (.q 5 (.q 6 (.q 7 (.q 8 (.q 9 (.e 10 (.q 11 (.q 12 (.q 13 (.q 14 (.q 15 (.q 16 (.q 17 (.q 18 (.q 19 (.q 20 (.e 21 (.q 22 (.q 23 (.q 24 (.q 25 (.q 26 (.q 27 (.q 28 (.q 29 (.q 30 (.q 31 (.q 32 (.e 33 (.q 34 (.q 35 (.q 36 (.q 37 (.q 38 (.q 39 (.q 40 (.q 41 (.q 42 (.q 43 (.q 44 (.e 45 (.q 46 (.q 47 (.q 48 .nil))))))))))))))))))))))))))))))))))))))))))))))))) (by kernel_rfl) (by kernel_rfl) ?_
      refine RM rfl (ev_move rfl) ?_
      refine RM rfl (ev_move rfl) ?_
      refine RS_q_no retB_noPanic rfl rfl rfl ⟨_, rfl, rfl⟩ rfl ?_
      refine RS_q_no retB_noPanic rfl rfl rfl ⟨_, rfl, rfl⟩ rfl ?_
      refine RS_q_no retB_noPanic rfl rfl rfl ⟨_, rfl, rfl⟩ rfl ?_
      refine RS_q_no retB_noPanic rfl rfl rfl ⟨_, rfl, rfl⟩ rfl ?_
      refine RS_q_no retB_noPanic rfl rfl rfl ⟨_, rfl, rfl⟩ rfl ?_
      refine RS_q_no retB_noPanic rfl rfl rfl ⟨_, rfl, rfl⟩ rfl ?_
      refine RS_q_no retB_noPanic rfl rfl rfl ⟨_, rfl, rfl⟩ rfl ?_
      refine RS_q_no retB_noPanic rfl rfl rfl ⟨_, rfl, rfl⟩ rfl ?_
      refine RS_e (RE_no rfl rfl rfl ⟨_, rfl, rfl⟩ rfl ?_)
      refine RS_q_no retB_noPanic rfl rfl rfl ⟨_, rfl, rfl⟩ rfl ?_
      refine RS_q_no retB_noPanic rfl rfl rfl ⟨_, rfl, rfl⟩ rfl ?_
      refine RS_q_undef retB_noPanic rfl rfl rfl rfl rfl ?_
      refine RS_q_undef retB_noPanic rfl rfl rfl rfl rfl ?_
      refine RS_q_undef retB_noPanic rfl rfl rfl rfl rfl ?_
      refine RS_q_undef retB_noPanic rfl rfl rfl rfl rfl ?_
      refine RS_q_undef retB_noPanic rfl rfl rfl rfl rfl ?_
      refine RS_q_undef retB_noPanic rfl rfl rfl rfl rfl ?_
      refine RS_q_undef retB_noPanic rfl rfl rfl rfl rfl ?_
      refine RS_q_undef retB_noPanic rfl rfl rfl rfl rfl ?_
      refine RS_e (RE_undef rfl rfl rfl rfl rfl ?_)
      refine RS_q_undef retB_noPanic rfl rfl rfl rfl rfl ?_
      refine RS_q_no retB_noPanic rfl rfl rfl ⟨_, rfl, rfl⟩ rfl ?_
      refine RS_q_no retB_noPanic rfl rfl rfl ⟨_, rfl, rfl⟩ rfl ?_
      refine RS_q_undef retB_noPanic rfl rfl rfl rfl rfl ?_
      refine RS_q_undef retB_noPanic rfl rfl rfl rfl rfl ?_
      refine RS_q_undef retB_noPanic rfl rfl rfl rfl rfl ?_
      refine RS_q_undef retB_noPanic rfl rfl rfl rfl rfl ?_
      refine RS_q_undef retB_noPanic rfl rfl rfl rfl rfl ?_
      refine RS_q_undef retB_noPanic rfl rfl rfl rfl rfl ?_
      refine RS_q_undef retB_noPanic rfl rfl rfl rfl rfl ?_
      refine RS_q_undef retB_noPanic rfl rfl rfl rfl rfl ?_
      refine RS_e (RE_undef rfl rfl rfl rfl rfl ?_)
      refine RS_q_undef retB_noPanic rfl rfl rfl rfl rfl ?_
      refine RS_q_no retB_noPanic rfl rfl rfl ⟨_, rfl, rfl⟩ rfl ?_
      refine RS_q_no retB_noPanic rfl rfl rfl ⟨_, rfl, rfl⟩ rfl ?_
      refine RS_q_undef retB_noPanic rfl rfl rfl rfl rfl ?_
      refine RS_q_undef retB_noPanic rfl rfl rfl rfl rfl ?_
      refine RS_q_undef retB_noPanic rfl rfl rfl rfl rfl ?_
      refine RS_q_undef retB_noPanic rfl rfl rfl rfl rfl ?_
      refine RS_q_undef retB_noPanic rfl rfl rfl rfl rfl ?_
      refine RS_q_undef retB_noPanic rfl rfl rfl rfl rfl ?_
      refine RS_q_undef retB_noPanic rfl rfl rfl rfl rfl ?_
      refine RS_q_undef retB_noPanic rfl rfl rfl rfl rfl ?_
      refine RS_e (RE_undef rfl rfl rfl rfl rfl ?_)
      refine RS_q_undef retB_noPanic rfl rfl rfl rfl rfl ?_
      refine RS_q_no retB_noPanic rfl rfl rfl ⟨_, rfl, rfl⟩ rfl ?_
      refine RM rfl (ev_pick_f rfl rfl rfl) ?_
      refine RS_nil ?_
      refine GN ?_
      refine G_cond_f rfl rfl ?_
      refine GN ?_
      refine G_region ?_
      (first | refine GQ (ev_addN (q := 1) rfl rfl NgA) ?_ | refine GQ (ev_add rfl rfl NgA) ?_)
      refine GQ (ev_move rfl) ?_
      refine GO_nil ?_
      refine GN ?_
      exact G_round (k + 1) (by omega) (by omega) ⟨rfl, rfl, rfl, rfl, rfl, trivial⟩ EnA
    · refine GN ?_
      refine G_draw (.q 0 (.q 1 (.q 2 (.q 3 (.q 4 (.q 5 (.q 6 (.q 7 (.q 8 (.q 9 (.q 10 (.q 11 (.q 12 (.q 13 (.e 14 (.q 15 (.q 16 .nil))))))))))))))))) (by kernel_rfl) (by kernel_rfl) ?_
      refine RM rfl (ev_move rfl) ?_
      refine RM rfl (ev_gtr rfl rfl) ?_
      refine RM rfl (ev_move rfl) ?_
      refine RS_q_no retB_noPanic rfl rfl rfl ⟨_, rfl, (decide_eq_false (by omega))⟩ rfl ?_
      refine RS_q_no retB_noPanic rfl rfl rfl ⟨_, rfl, (decide_eq_false (by omega))⟩ rfl ?_
      refine RS_q_no retB_noPanic rfl rfl rfl ⟨_, rfl, (decide_eq_false (by omega))⟩ rfl ?_
      refine RS_q_no retB_noPanic rfl rfl rfl ⟨_, rfl, (decide_eq_false (by omega))⟩ rfl ?_
      refine RS_q_no retB_noPanic rfl rfl rfl ⟨_, rfl, (decide_eq_false (by omega))⟩ rfl ?_
      refine RS_q_no retB_noPanic rfl rfl rfl ⟨_, rfl, (decide_eq_false (by omega))⟩ rfl ?_
      refine RS_q_no retB_noPanic rfl rfl rfl ⟨_, rfl, (decide_eq_false (by omega))⟩ rfl ?_
      refine RS_q_no retB_noPanic rfl rfl rfl ⟨_, rfl, (decide_eq_false (by omega))⟩ rfl ?_
      refine RS_q_no retB_noPanic rfl rfl rfl ⟨_, rfl, (decide_eq_false (by omega))⟩ rfl ?_
      refine RS_q_no retB_noPanic rfl rfl rfl ⟨_, rfl, (decide_eq_false (by omega))⟩ rfl ?_
      refine RS_q_no retB_noPanic rfl rfl rfl ⟨_, rfl, (decide_eq_false (by omega))⟩ rfl ?_
      refine RS_e (RE_no rfl rfl rfl ⟨_, rfl, (decide_eq_false (by omega))⟩ rfl ?_)
      refine RS_q_no retB_noPanic rfl rfl rfl ⟨_, rfl, (decide_eq_false (by omega))⟩ rfl ?_
      refine RM rfl (ev_pick_f rfl (decide_eq_false (by omega)) rfl) ?_
      refine RS_nil ?_
      refine GN ?_
      refine G_cond_f rfl rfl ?_
      refine GN ?_
      refine G_draw (.q 0 (.q 1 (.q 2 (.q 3 (.q 4 (.q 5 (.q 6 (.q 7 (.q 8 (.q 9 (.q 10 (.q 11 (.q 12 (.q 13 (.q 14 (.q 15 (.q 16 (.e 17 (.q 18 (.q 19 (.q 20 (.q 21 (.q 22 (.q 23 (.q 24 (.q 25 (.q 26 (.e 27 (.q 28 (.q 29 .nil)))))))))))))))))))))))))))))) (by kernel_rfl) (by kernel_rfl) ?_
      refine RM rfl (ev_move rfl) ?_
      refine RM rfl (ev_move rfl) ?_
      refine RS_q_no retB_noPanic rfl rfl rfl ⟨_, rfl, rfl⟩ rfl ?_
      refine RS_q_no retB_noPanic rfl rfl rfl ⟨_, rfl, rfl⟩ rfl ?_
      refine RS_q_no retB_noPanic rfl rfl rfl ⟨_, rfl, rfl⟩ rfl ?_
      refine RS_q_no retB_noPanic rfl rfl rfl ⟨_, rfl, rfl⟩ rfl ?_
      refine RS_q_no retB_noPanic rfl rfl rfl ⟨_, rfl, rfl⟩ rfl ?_
      refine RS_q_no retB_noPanic rfl rfl rfl ⟨_, rfl, rfl⟩ rfl ?_
      refine RS_q_no retB_noPanic rfl rfl rfl ⟨_, rfl, rfl⟩ rfl ?_
      refine RM rfl (ev_pick_f rfl rfl rfl) ?_
      refine RM rfl (ev_move rfl) ?_
      refine RS_m_yes retB_noPanic rfl rfl rfl rfl ⟨_, rfl, rfl⟩ rfl (ev_fieldAddr rfl) ?_
      refine RS_q_yes retB_noPanic rfl rfl rfl rfl ⟨_, rfl, rfl⟩ rfl (ev_load rfl LdA) ?_
      refine RS_m_yes retB_noPanic rfl rfl rfl rfl ⟨_, rfl, rfl⟩ rfl (ev_move rfl) ?_
      (first | refine RS_m_yes retB_noPanic rfl rfl rfl rfl ⟨_, rfl, rfl⟩ rfl (ev_nilCheck rfl) ?_ | refine RS_m_yes retB_noPanic rfl rfl rfl rfl ⟨_, rfl, rfl⟩ rfl (ev_nilCheckF (by simp) rfl) ?_)
      refine RS_m_yes retB_noPanic rfl rfl rfl rfl ⟨_, rfl, rfl⟩ rfl (ev_fieldAddr rfl) ?_
      refine RS_q_yes retB_noPanic rfl rfl rfl rfl ⟨_, rfl, rfl⟩ rfl (ev_load rfl LdA) ?_
      refine RS_e (RE_eff_yes rfl rfl rfl ⟨_, rfl, rfl⟩ rfl (eff_call rfl (size_ctr none .nil _ rfl)) ?_); rintro _ _ ⟨rfl, rfl⟩; refine ⟨_, fun _ s => s, ExA, ?_⟩
      refine RS_m_yes retB_noPanic rfl rfl rfl rfl ⟨_, rfl, rfl⟩ rfl (ev_gtr rfl rfl) ?_
      refine RM rfl (ev_pick_f rfl rfl rfl) ?_
      refine RM rfl (ev_move rfl) ?_
      refine RS_m_yes retB_noPanic rfl rfl rfl rfl ⟨_, rfl, (decide_eq_false n1)⟩ rfl (ev_fieldAddr rfl) ?_
      refine RS_q_yes retB_noPanic rfl rfl rfl rfl ⟨_, rfl, (decide_eq_false n1)⟩ rfl (ev_load rfl LdA) ?_
      refine RS_m_yes retB_noPanic rfl rfl rfl rfl ⟨_, rfl, (decide_eq_false n1)⟩ rfl (ev_move rfl) ?_
      (first | refine RS_m_yes retB_noPanic rfl rfl rfl rfl ⟨_, rfl, (decide_eq_false n1)⟩ rfl (ev_nilCheck rfl) ?_ | refine RS_m_yes retB_noPanic rfl rfl rfl rfl ⟨_, rfl, (decide_eq_false n1)⟩ rfl (ev_nilCheckF (by simp) rfl) ?_)
      refine RS_m_yes retB_noPanic rfl rfl rfl rfl ⟨_, rfl, (decide_eq_false n1)⟩ rfl (ev_fieldAddr rfl) ?_
      refine RS_q_yes retB_noPanic rfl rfl rfl rfl ⟨_, rfl, (decide_eq_false n1)⟩ rfl (ev_load rfl LdA) ?_
      refine RS_e (RE_eff_yes rfl rfl rfl ⟨_, rfl, (decide_eq_false n1)⟩ rfl (eff_call rfl (size_ctr none .nil _ rfl)) ?_); rintro _ _ ⟨rfl, rfl⟩; refine ⟨_, fun _ s => s, ExA, ?_⟩
      refine RS_m_yes retB_noPanic rfl rfl rfl rfl ⟨_, rfl, (decide_eq_false n1)⟩ rfl (ev_gtr rfl rfl) ?_
      refine RM rfl (ev_pick_f rfl (decide_eq_false n1) rfl) ?_
      refine RS_nil ?_
      refine GN ?_
      refine G_cond_f rfl (decide_eq_false n2) ?_
      refine GN ?_
      refine G_draw (.q 0 (.q 1 (.q 2 (.q 3 (.q 4 (.q 5 (.q 6 (.q 7 (.q 8 (.q 9 (.e 10 (.q 11 (.q 12 (.q 13 (.q 14 (.q 15 (.q 16 (.q 17 (.q 18 (.q 19 (.q 20 (.e 21 (.q 22 (.q 23 (.q 24 (.q 25 (.q 26 (.q 27 (.q 28 (.q 29 (.q 30 (.q 31 (.q 32 (.e 33 (.q 34 (.q 35 (.q 36 (.q 37 (.q 38 (.q 39 (.q 40 (.q 41 (.q 42 (.q 43 (.q 44 (.e 45 (.q 46 (.q 47 (.q 48 .nil))))))))))))))))))))))))))))))))))))))))))))))))) (by kernel_rfl) (by kernel_rfl) ?_
      refine RM rfl (ev_move rfl) ?_
      refine RM rfl (ev_move rfl) ?_
      refine RS_q_no retB_noPanic rfl rfl rfl ⟨_, rfl, rfl⟩ rfl ?_
      refine RS_q_no retB_noPanic rfl rfl rfl ⟨_, rfl, rfl⟩ rfl ?_
      refine RS_q_no retB_noPanic rfl rfl rfl ⟨_, rfl, rfl⟩ rfl ?_
      refine RS_q_no retB_noPanic rfl rfl rfl ⟨_, rfl, rfl⟩ rfl ?_
      refine RS_q_no retB_noPanic rfl rfl rfl ⟨_, rfl, rfl⟩ rfl ?_
      refine RS_q_no retB_noPanic rfl rfl rfl ⟨_, rfl, rfl⟩ rfl ?_
      refine RS_q_no retB_noPanic rfl rfl rfl ⟨_, rfl, rfl⟩ rfl ?_
      refine RS_q_no retB_noPanic rfl rfl rfl ⟨_, rfl, rfl⟩ rfl ?_
      refine RS_e (RE_no rfl rfl rfl ⟨_, rfl, rfl⟩ rfl ?_)
      refine RS_q_no retB_noPanic rfl rfl rfl ⟨_, rfl, rfl⟩ rfl ?_
      refine RS_q_no retB_noPanic rfl rfl rfl ⟨_, rfl, rfl⟩ rfl ?_
      refine RS_q_undef retB_noPanic rfl rfl rfl rfl rfl ?_
      refine RS_q_undef retB_noPanic rfl rfl rfl rfl rfl ?_
      refine RS_q_undef retB_noPanic rfl rfl rfl rfl rfl ?_
      refine RS_q_undef retB_noPanic rfl rfl rfl rfl rfl ?_
      refine RS_q_undef retB_noPanic rfl rfl rfl rfl rfl ?_
      refine RS_q_undef retB_noPanic rfl rfl rfl rfl rfl ?_
      refine RS_q_undef retB_noPanic rfl rfl rfl rfl rfl ?_
      refine RS_q_undef retB_noPanic rfl rfl rfl rfl rfl ?_
      refine RS_e (RE_undef rfl rfl rfl rfl rfl ?_)
      refine RS_q_undef retB_noPanic rfl rfl rfl rfl rfl ?_
      refine RS_q_no retB_noPanic rfl rfl rfl ⟨_, rfl, rfl⟩ rfl ?_
      refine RS_q_no retB_noPanic rfl rfl rfl ⟨_, rfl, rfl⟩ rfl ?_
      refine RS_q_undef retB_noPanic rfl rfl rfl rfl rfl ?_
      refine RS_q_undef retB_noPanic rfl rfl rfl rfl rfl ?_
      refine RS_q_undef retB_noPanic rfl rfl rfl rfl rfl ?_
      refine RS_q_undef retB_noPanic rfl rfl rfl rfl rfl ?_
      refine RS_q_undef retB_noPanic rfl rfl rfl rfl rfl ?_
      refine RS_q_undef retB_noPanic rfl rfl rfl rfl rfl ?_
      refine RS_q_undef retB_noPanic rfl rfl rfl rfl rfl ?_
      refine RS_q_undef retB_noPanic rfl rfl rfl rfl rfl ?_
      refine RS_e (RE_undef rfl rfl rfl rfl rfl ?_)
      refine RS_q_undef retB_noPanic rfl rfl rfl rfl rfl ?_
      refine RS_q_no retB_noPanic rfl rfl rfl ⟨_, rfl, rfl⟩ rfl ?_
      refine RS_q_no retB_noPanic rfl rfl rfl ⟨_, rfl, rfl⟩ rfl ?_
      refine RS_q_undef retB_noPanic rfl rfl rfl rfl rfl ?_
      refine RS_q_undef retB_noPanic rfl rfl rfl rfl rfl ?_
      refine RS_q_undef retB_noPanic rfl rfl rfl rfl rfl ?_
      refine RS_q_undef retB_noPanic rfl rfl rfl rfl rfl ?_
      refine RS_q_undef retB_noPanic rfl rfl rfl rfl rfl ?_
      refine RS_q_undef retB_noPanic rfl rfl rfl rfl rfl ?_
      refine RS_q_undef retB_noPanic rfl rfl rfl rfl rfl ?_
      refine RS_q_undef retB_noPanic rfl rfl rfl rfl rfl ?_
      refine RS_e (RE_undef rfl rfl rfl rfl rfl ?_)
      refine RS_q_undef retB_noPanic rfl rfl rfl rfl rfl ?_
      refine RS_q_no retB_noPanic rfl rfl rfl ⟨_, rfl, rfl⟩ rfl ?_
      refine RM rfl (ev_pick_f rfl rfl rfl) ?_
      refine RS_nil ?_
      refine GN ?_
      refine G_cond_f rfl rfl ?_
      refine GN ?_
      refine G_region ?_
      (first | refine GQ (ev_addN (q := 1) rfl rfl NgA) ?_ | refine GQ (ev_add rfl rfl NgA) ?_)
      refine GQ (ev_move rfl) ?_
      refine GO_nil ?_
      refine GN ?_
      exact G_round (k + 1) (by omega) (by omega) ⟨rfl, rfl, rfl, rfl, rfl, trivial⟩ EnA
  · refine GN ?_
    refine G_draw (.q 0 (.q 1 (.q 2 (.q 3 (.e 4 (.q 5 (.q 6 (.q 7 (.q 8 (.q 9 (.e 10 (.q 11 (.q 12 (.q 13 (.q 14 (.q 15 (.q 16 (.q 17 (.q 18 (.q 19 (.q 20 (.q 21 (.q 22 (.q 23 (.q 24 (.q 26 (.q 27 (.q 28 (.q 29 (.e 25 (.e 30 (.q 31 (.q 32 (.q 33 (.q 34 (.q 35 .nil)))))))))))))))))))))))))))))))))))) (by kernel_rfl) (by kernel_rfl) ?_
    refine RM rfl (ev_move rfl) ?_
    (first | refine RM rfl (ev_nilCheck rfl) ?_ | refine RM rfl (ev_nilCheckF (by simp) rfl) ?_)
    refine RM rfl (ev_fieldAddr rfl) ?_
    refine RQ rfl (ev_load rfl LdA) ?_
    refine RS_e (RE_eff rfl rfl rfl (eff_call rfl (sound_nil _)) ?_); rintro _ _ ⟨rfl, rfl⟩; refine ⟨_, fun _ s => s, ExA, ?_⟩
    refine RM rfl (ev_move rfl) ?_
    refine RS_m_yes retB_noPanic rfl rfl rfl rfl ⟨_, rfl, rfl⟩ rfl (ev_move rfl) ?_
    (first | refine RS_m_yes retB_noPanic rfl rfl rfl rfl ⟨_, rfl, rfl⟩ rfl (ev_nilCheck rfl) ?_ | refine RS_m_yes retB_noPanic rfl rfl rfl rfl ⟨_, rfl, rfl⟩ rfl (ev_nilCheckF (by simp) rfl) ?_)
    refine RS_m_yes retB_noPanic rfl rfl rfl rfl ⟨_, rfl, rfl⟩ rfl (ev_fieldAddr rfl) ?_
    refine RS_q_yes retB_noPanic rfl rfl rfl rfl ⟨_, rfl, rfl⟩ rfl (ev_load rfl LdA) ?_
    refine RS_e (RE_eff_yes rfl rfl rfl ⟨_, rfl, rfl⟩ rfl (eff_call rfl (sound_nil _)) ?_); rintro _ _ ⟨rfl, rfl⟩; refine ⟨_, fun _ s => s, ExA, ?_⟩
    refine RM rfl (ev_pick_t rfl rfl rfl) ?_
    refine RM rfl (ev_move rfl) ?_
    refine RS_m_yes retB_noPanic rfl rfl rfl rfl ⟨_, rfl, rfl⟩ rfl (ev_move rfl) ?_
    (first | refine RS_m_yes retB_noPanic rfl rfl rfl rfl ⟨_, rfl, rfl⟩ rfl (ev_notP rfl) ?_ | refine RS_m_yes retB_noPanic rfl rfl rfl rfl ⟨_, rfl, rfl⟩ rfl (ev_not rfl) ?_)
    refine RS_m_yes retB_noPanic rfl rfl rfl rfl ⟨_, rfl, rfl⟩ rfl (ev_move rfl) ?_
    refine RS_q_no retB_noPanic rfl rfl rfl ⟨_, rfl, rfl⟩ rfl ?_
    refine RS_q_no retB_noPanic rfl rfl rfl ⟨_, rfl, rfl⟩ rfl ?_
    refine RS_q_no retB_noPanic rfl rfl rfl ⟨_, rfl, rfl⟩ rfl ?_
    refine RS_q_no retB_noPanic rfl rfl rfl ⟨_, rfl, rfl⟩ rfl ?_
    refine RS_q_no retB_noPanic rfl rfl rfl ⟨_, rfl, rfl⟩ rfl ?_
    refine RS_q_no retB_noPanic rfl rfl rfl ⟨_, rfl, rfl⟩ rfl ?_
    refine RS_q_no retB_noPanic rfl rfl rfl ⟨_, rfl, rfl⟩ rfl ?_
    refine RS_q_no retB_noPanic rfl rfl rfl ⟨_, rfl, rfl⟩ rfl ?_
    refine RS_q_no retB_noPanic rfl rfl rfl ⟨_, rfl, rfl⟩ rfl ?_
    refine RS_q_no retB_noPanic rfl rfl rfl ⟨_, rfl, rfl⟩ rfl ?_
    refine RS_q_no retB_noPanic rfl rfl rfl ⟨_, rfl, rfl⟩ rfl ?_
    refine RS_q_no retB_noPanic rfl rfl rfl ⟨_, rfl, rfl⟩ rfl ?_
    refine RS_q_no retB_noPanic rfl rfl rfl ⟨_, rfl, rfl⟩ rfl ?_
    refine RS_e (RE_no rfl rfl rfl ⟨_, rfl, rfl⟩ rfl ?_)
    refine RS_e (RE_no rfl rfl rfl ⟨_, rfl, rfl⟩ rfl ?_)
    refine RS_q_no retB_noPanic rfl rfl rfl ⟨_, rfl, rfl⟩ rfl ?_
    refine RS_q_no retB_noPanic rfl rfl rfl ⟨_, rfl, rfl⟩ rfl ?_
    refine RS_m_yes retB_noPanic rfl rfl rfl rfl ⟨_, rfl, rfl⟩ rfl (ev_pick_t rfl rfl rfl) ?_
    refine RM rfl (ev_pick_t rfl rfl rfl) ?_
    refine RM rfl (ev_assign rfl) ?_
    refine RS_nil ?_
    refine GN ?_
    refine G_ret rfl (.tmp rfl .nil) EnA ⟨rfl, rfl⟩
end Go.Proofs.YtkoncepjfgnjlaaGreat
/- Arrays that lead into one another: a joined one, which is sound; and that a small one lives. -/
namespace Go.Proofs.YtkoncepjfgnjlaaGreat
attribute [local irreducible] sat
set_option linter.unusedVariables false
set_option linter.unusedSimpArgs false
set_option maxRecDepth 100000

theorem sound_join (q : Option Addr) (es : List Ent) (lo hi : Arr) (L : List HP) (h : ArrIn L q (.node es lo hi)) (hlo : lo ≠ .nil) (hm : es.length ≤ 100000) (z1 : lo.es.length ≤ 100000) (z2 : hi.es.length ≤ 100000)
    (h1 : ∀ (k : Nat) (e f : Ent), es[k]? = some e → es[k + 1]? = some f → up e.p f.p ≤ 0)
    (h2 : ∀ (k : Nat) (e : Ent), es[k]? = some e → 0 ≤ e.low ∧ 0 ≤ e.high ∧ e.low + e.high = k ∧ e.low ≤ lo.es.length ∧ e.high ≤ hi.es.length ∧ e.low ≤ lo.pts.countP (aheadF e.p true) ∧ e.high ≤ hi.pts.countP (aheadF e.p true) ∧ lo.pts.countP (aheadF e.p false) ≤ e.low ∧ hi.pts.countP (aheadF e.p false) ≤ e.high)
    (hlen : es.length = lo.es.length + hi.es.length)
    (slo : ∀ (L : List HP) (q : Option Addr), ArrIn L q lo → Ctr Tryz.prog 101 #[.pointer q] L fun v L' => v = .bool true ∧ L' = L)
    (shi : ∀ (L : List HP) (q : Option Addr), ArrIn L q hi → Ctr Tryz.prog 101 #[.pointer q] L fun v L' => v = .bool true ∧ L' = L) :
    Ctr Tryz.prog 101 #[.pointer q] L fun v L' => v = .bool true ∧ L' = L := by
  obtain ⟨b, A, c, pl, ph, rfl, x1, x2, x3, x4, al, ah⟩ := h
  have y0 := x1.at_ (i := 0) rfl
  have y1 := x1.at_ (i := 1) rfl
  have y2 := x1.at_ (i := 2) rfl
  obtain ⟨pla, rfl⟩ : ∃ a, pl = some a := by
    cases lo with
    | nil => exact absurd rfl hlo
    | node _ _ _ => obtain ⟨b, _, _, _, _, rfl, _⟩ := al; exact ⟨_, rfl⟩
  refine Ctr_of (fn := Tryz.f101) (n := 162) Tryz.func101 rfl rfl rfl ?_
  intro g F
  refine GN ?_
  refine G_region ?_
  refine GQ (ev_assign rfl) ?_
  refine GO_nil ?_
  refine GN ?_
  refine G_region ?_
  refine GQ (ev_move rfl) ?_
  (first | refine GQ (ev_eqlNil rfl rfl) ?_ | refine GQ (ev_eqlPtr rfl rfl) ?_)
  refine GO_nil ?_
  refine GN ?_
  refine G_cond_f rfl rfl ?_
  refine GN ?_
  refine G_region ?_
  refine GQ (ev_move rfl) ?_
  (first | refine GQ (ev_nilCheck rfl) ?_ | refine GQ (ev_nilCheckF (by simp) rfl) ?_)
  refine GQ (ev_fieldAddr rfl) ?_
  refine GQ (ev_load rfl LdA) ?_
  (first | refine GQ (ev_neqNil rfl rfl) ?_ | refine GQ (ev_neqPtr rfl rfl) ?_)
  refine GQ (ev_move rfl) ?_
  refine GO_no rfl rfl rfl rfl ?_
  refine GO_no rfl rfl rfl rfl ?_
  refine GO_no rfl rfl rfl rfl ?_
  refine GO_no rfl rfl rfl rfl ?_
  refine GO_no rfl rfl rfl rfl ?_
  refine GQ (ev_pick_t rfl rfl rfl) ?_
  refine GQ (ev_assign rfl) ?_
  refine GO_nil ?_
  refine GN ?_
  refine G_region ?_
  refine GQ (ev_move rfl) ?_
  (first | refine GQ (ev_nilCheck rfl) ?_ | refine GQ (ev_nilCheckF (by simp) rfl) ?_)
  refine GQ (ev_fieldAddr rfl) ?_
  refine GQ (ev_load rfl LdA) ?_
  refine GQ (ev_len rfl) ?_
  refine GQ (ev_move rfl) ?_
  refine GO_nil ?_
  refine GN ?_
  refine G_loop (ι := Nat) (fun k => [(0, .pointer (some ⟨b, 0, none⟩)), (3, .bool true), (23, .slice A es.length c), (24, .int .i64 (es.length : Nat)), (25, .int .i64 (k : Nat))]) (fun _ => F :: L) (fun k => k ≤ es.length) (fun k => es.length - k) 0 (Nat.zero_le _) ⟨rfl, rfl, rfl, rfl, rfl, trivial⟩ EnA ?_
  intro k hk
  refine GN ?_
  refine G_region ?_
  (first | refine GQ (ev_lssN rfl rfl) ?_ | refine GQ (ev_lss rfl rfl) ?_)
  refine GO_nil ?_
  refine GN ?_
  refine G_cond rfl (fun c1 => ?_) (fun c1 => ?_)
  · obtain ⟨bb, o, rfl, hx⟩ := x2.at_ (by omega)
    have hg : es[k]? = some es[k] := List.getElem?_eq_getElem (by omega)
    have w2 := hx _ _ hg
    obtain ⟨v1, v2, v3, v4, v5, v6, v7, v8, v9⟩ := h2 k _ hg
    have hprev : 0 < k → ∃ f : Ent, LdN L bb (o + (k - 1) * 5) 3 [.int .i64 f.p.id, .int .i64 f.p.x, .int .i64 f.p.y] ∧ up f.p es[k].p ≤ 0 := fun h0 => by
      have hg' : es[k - 1]? = some es[k - 1] := List.getElem?_eq_getElem (by omega)
      exact ⟨es[k - 1], (hx _ _ hg').part 3 rfl, h1 (k - 1) _ _ hg' (by rw [Nat.sub_add_cancel h0]; exact hg)⟩
    generalize es[k] = e at *
    have w4 : LdN L bb (o + k * 5) 5 [.int .i64 e.p.id, .int .i64 e.p.x, .int .i64 e.p.y, .int .i64 e.low, .int .i64 e.high] := w2
    have n0 : ¬ (e.low + e.high ≠ (k : Int)) := by omega
    have n1 : ¬ ((lo.es.length : Int) < e.low) := by omega
    have n2 : ¬ ((hi.es.length : Int) < e.high) := by omega
    have n3 : ¬ ((lo.pts.countP (aheadF e.p true) : Int) < e.low) := by omega
    have n4 : ¬ ((hi.pts.countP (aheadF e.p true) : Int) < e.high) := by omega
    have n5 : ¬ (e.low < (lo.pts.countP (aheadF e.p false) : Int)) := by omega
    have n6 : ¬ (e.high < (hi.pts.countP (aheadF e.p false) : Int)) := by omega
    refine GN ?_
    refine G_region ?_
    refine GQ (ev_move rfl) ?_
    (first | refine GQ (ev_indexAddrN rfl rfl NgA) ?_ | refine GQ (ev_indexAddr rfl rfl NgA NgA) ?_)
    refine GQ (ev_loadN rfl LnA) ?_
    refine GE eff_alloc ?_; rintro _ _ ⟨b5, rfl, rfl⟩
    refine GQ (ev_assign rfl) ?_
    refine GE (eff_storeN rfl rfl rfl rfl UpA) ?_; rintro _ _ ⟨rfl, rfl⟩
    refine GO_nil ?_
    by_cases h0 : 0 < k
    · obtain ⟨f, w5, w6⟩ := hprev h0
      have w7 : ¬ (0 < up f.p e.p) := by omega
      refine GN ?_
      refine G_draw (.q 0 (.q 1 (.q 2 (.q 3 (.q 4 (.q 5 (.q 6 (.q 7 (.q 8 (.q 9 (.q 10 (.q 11 (.q 12 (.q 13 (.e 14 (.q 15 (.q 16 .nil))))))))))))))))) (by kernel_rfl) (by kernel_rfl) ?_
      refine RM rfl (ev_move rfl) ?_
      refine RM rfl (ev_gtr rfl rfl) ?_
      refine RM rfl (ev_move rfl) ?_
      refine RS_m_yes retB_noPanic rfl rfl rfl rfl ⟨_, rfl, (decide_eq_true (by omega))⟩ rfl (ev_move rfl) ?_
      (first | refine RS_m_yes retB_noPanic rfl rfl rfl rfl ⟨_, rfl, (decide_eq_true (by omega))⟩ rfl (ev_nilCheck rfl) ?_ | refine RS_m_yes retB_noPanic rfl rfl rfl rfl ⟨_, rfl, (decide_eq_true (by omega))⟩ rfl (ev_nilCheckF (by simp) rfl) ?_)
      refine RS_m_yes retB_noPanic rfl rfl rfl rfl ⟨_, rfl, (decide_eq_true (by omega))⟩ rfl (ev_fieldAddr rfl) ?_
      refine RS_q_yes retB_noPanic rfl rfl rfl rfl ⟨_, rfl, (decide_eq_true (by omega))⟩ rfl (ev_load rfl LdA) ?_
      refine RS_m_yes retB_noPanic rfl rfl rfl rfl ⟨_, rfl, (decide_eq_true (by omega))⟩ rfl (ev_move rfl) ?_
      (first | refine RS_m_yes retB_noPanic rfl rfl rfl rfl ⟨_, rfl, (decide_eq_true (by omega))⟩ rfl (ev_subN (q := 1) rfl rfl NgA) ?_ | refine RS_m_yes retB_noPanic rfl rfl rfl rfl ⟨_, rfl, (decide_eq_true (by omega))⟩ rfl (ev_sub rfl rfl NgA) ?_)
      (first | refine RS_m_yes retB_noPanic rfl rfl rfl rfl ⟨_, rfl, (decide_eq_true (by omega))⟩ rfl (ev_indexAddrN rfl rfl NgA) ?_ | refine RS_m_yes retB_noPanic rfl rfl rfl rfl ⟨_, rfl, (decide_eq_true (by omega))⟩ rfl (ev_indexAddr rfl rfl NgA NgA) ?_)
      refine RS_m_yes retB_noPanic rfl rfl rfl rfl ⟨_, rfl, (decide_eq_true (by omega))⟩ rfl (ev_fieldAddr rfl) ?_
      refine RS_q_yes retB_noPanic rfl rfl rfl rfl ⟨_, rfl, (decide_eq_true (by omega))⟩ rfl (ev_loadN rfl LnA) ?_
      refine RS_m_yes retB_noPanic rfl rfl rfl rfl ⟨_, rfl, (decide_eq_true (by omega))⟩ rfl (ev_fieldAddr rfl) ?_
      refine RS_q_yes retB_noPanic rfl rfl rfl rfl ⟨_, rfl, (decide_eq_true (by omega))⟩ rfl (ev_loadN rfl LnA) ?_
      refine RS_e (RE_eff_yes rfl rfl rfl ⟨_, rfl, (decide_eq_true (by omega))⟩ rfl (eff_call rfl (up_ctr f.p e.p _)) ?_); rintro _ _ ⟨rfl, rfl⟩; refine ⟨_, fun _ s => s, ExA, ?_⟩
      refine RS_m_yes retB_noPanic rfl rfl rfl rfl ⟨_, rfl, (decide_eq_true (by omega))⟩ rfl (ev_gtr rfl rfl) ?_
      refine RM rfl (ev_pick_t rfl (decide_eq_true (by omega)) rfl) ?_
      refine RS_nil ?_
      refine GN ?_
      refine G_cond_f rfl (decide_eq_false w7) ?_
      refine GN ?_
      refine G_draw (.q 0 (.q 1 (.q 2 (.q 3 (.q 4 (.q 5 (.q 6 (.q 7 (.q 8 (.q 9 (.q 10 (.q 11 (.q 12 (.q 13 (.q 14 (.q 15 (.q 16 (.e 17 (.q 18 (.q 19 (.q 20 (.q 21 (.q 22 (.q 23 (.q 24 (.q 25 (.q 26 (.e 27 (.q 28 (.q 29 .nil)))))))))))))))))))))))))))))) (by kernel_rfl) (by kernel_rfl) ?_
      refine RM rfl (ev_move rfl) ?_
      refine RM rfl (ev_move rfl) ?_
      refine RS_m_yes retB_noPanic rfl rfl rfl rfl ⟨_, rfl, rfl⟩ rfl (ev_fieldAddr rfl) ?_
      refine RS_q_yes retB_noPanic rfl rfl rfl rfl ⟨_, rfl, rfl⟩ rfl (ev_load rfl LdA) ?_
      refine RS_m_yes retB_noPanic rfl rfl rfl rfl ⟨_, rfl, rfl⟩ rfl (ev_fieldAddr rfl) ?_
      refine RS_q_yes retB_noPanic rfl rfl rfl rfl ⟨_, rfl, rfl⟩ rfl (ev_load rfl LdA) ?_
      (first | refine RS_m_yes retB_noPanic rfl rfl rfl rfl ⟨_, rfl, rfl⟩ rfl (ev_addN rfl rfl NgA) ?_ | refine RS_m_yes retB_noPanic rfl rfl rfl rfl ⟨_, rfl, rfl⟩ rfl (ev_add rfl rfl NgA) ?_)
      refine RS_m_yes retB_noPanic rfl rfl rfl rfl ⟨_, rfl, rfl⟩ rfl (ev_move rfl) ?_
      refine RS_m_yes retB_noPanic rfl rfl rfl rfl ⟨_, rfl, rfl⟩ rfl (ev_neq rfl rfl) ?_
      refine RM rfl (ev_pick_t rfl rfl rfl) ?_
      refine RM rfl (ev_move rfl) ?_
      refine RS_m_yes retB_noPanic rfl rfl rfl rfl ⟨_, rfl, (decide_eq_false n0)⟩ rfl (ev_fieldAddr rfl) ?_
      refine RS_q_yes retB_noPanic rfl rfl rfl rfl ⟨_, rfl, (decide_eq_false n0)⟩ rfl (ev_load rfl LdA) ?_
      refine RS_m_yes retB_noPanic rfl rfl rfl rfl ⟨_, rfl, (decide_eq_false n0)⟩ rfl (ev_move rfl) ?_
      (first | refine RS_m_yes retB_noPanic rfl rfl rfl rfl ⟨_, rfl, (decide_eq_false n0)⟩ rfl (ev_nilCheck rfl) ?_ | refine RS_m_yes retB_noPanic rfl rfl rfl rfl ⟨_, rfl, (decide_eq_false n0)⟩ rfl (ev_nilCheckF (by simp) rfl) ?_)
      refine RS_m_yes retB_noPanic rfl rfl rfl rfl ⟨_, rfl, (decide_eq_false n0)⟩ rfl (ev_fieldAddr rfl) ?_
      refine RS_q_yes retB_noPanic rfl rfl rfl rfl ⟨_, rfl, (decide_eq_false n0)⟩ rfl (ev_load rfl LdA) ?_
      refine RS_e (RE_eff_yes rfl rfl rfl ⟨_, rfl, (decide_eq_false n0)⟩ rfl (eff_call rfl (size_ctr (some pla) lo _ (by repeat' first | assumption | apply ArrIn.skip))) ?_); rintro _ _ ⟨rfl, rfl⟩; refine ⟨_, fun _ s => s, ExA, ?_⟩
      refine RS_m_yes retB_noPanic rfl rfl rfl rfl ⟨_, rfl, (decide_eq_false n0)⟩ rfl (ev_gtr rfl rfl) ?_
      refine RM rfl (ev_pick_f rfl (decide_eq_false n0) rfl) ?_
      refine RM rfl (ev_move rfl) ?_
      refine RS_m_yes retB_noPanic rfl rfl rfl rfl ⟨_, rfl, (decide_eq_false n1)⟩ rfl (ev_fieldAddr rfl) ?_
      refine RS_q_yes retB_noPanic rfl rfl rfl rfl ⟨_, rfl, (decide_eq_false n1)⟩ rfl (ev_load rfl LdA) ?_
      refine RS_m_yes retB_noPanic rfl rfl rfl rfl ⟨_, rfl, (decide_eq_false n1)⟩ rfl (ev_move rfl) ?_
      (first | refine RS_m_yes retB_noPanic rfl rfl rfl rfl ⟨_, rfl, (decide_eq_false n1)⟩ rfl (ev_nilCheck rfl) ?_ | refine RS_m_yes retB_noPanic rfl rfl rfl rfl ⟨_, rfl, (decide_eq_false n1)⟩ rfl (ev_nilCheckF (by simp) rfl) ?_)
      refine RS_m_yes retB_noPanic rfl rfl rfl rfl ⟨_, rfl, (decide_eq_false n1)⟩ rfl (ev_fieldAddr rfl) ?_
      refine RS_q_yes retB_noPanic rfl rfl rfl rfl ⟨_, rfl, (decide_eq_false n1)⟩ rfl (ev_load rfl LdA) ?_
      refine RS_e (RE_eff_yes rfl rfl rfl ⟨_, rfl, (decide_eq_false n1)⟩ rfl (eff_call rfl (size_ctr ph hi _ (by repeat' first | assumption | apply ArrIn.skip))) ?_); rintro _ _ ⟨rfl, rfl⟩; refine ⟨_, fun _ s => s, ExA, ?_⟩
      refine RS_m_yes retB_noPanic rfl rfl rfl rfl ⟨_, rfl, (decide_eq_false n1)⟩ rfl (ev_gtr rfl rfl) ?_
      refine RM rfl (ev_pick_f rfl (decide_eq_false n1) rfl) ?_
      refine RS_nil ?_
      refine GN ?_
      refine G_cond_f rfl (decide_eq_false n2) ?_
      refine GN ?_
      refine G_draw (.q 0 (.q 1 (.q 2 (.q 3 (.q 4 (.q 5 (.q 6 (.q 7 (.q 8 (.q 9 (.e 10 (.q 11 (.q 12 (.q 13 (.q 14 (.q 15 (.q 16 (.q 17 (.q 18 (.q 19 (.q 20 (.e 21 (.q 22 (.q 23 (.q 24 (.q 25 (.q 26 (.q 27 (.q 28 (.q 29 (.q 30 (.q 31 (.q 32 (.e 33 (.q 34 (.q 35 (.q 36 (.q 37 (.q 38 (.q 39 (.q 40 (.q 41 (.q 42 (.q 43 (.q 44 (.e 45 (.q 46 (.q 47 (.q 48 .nil))))))))))))))))))))))))))))))))))))))))))))))))) (by kernel_rfl) (by kernel_rfl) ?_
      refine RM rfl (ev_move rfl) ?_
      refine RM rfl (ev_move rfl) ?_
      refine RS_m_yes retB_noPanic rfl rfl rfl rfl ⟨_, rfl, rfl⟩ rfl (ev_fieldAddr rfl) ?_
      refine RS_q_yes retB_noPanic rfl rfl rfl rfl ⟨_, rfl, rfl⟩ rfl (ev_load rfl LdA) ?_
      refine RS_m_yes retB_noPanic rfl rfl rfl rfl ⟨_, rfl, rfl⟩ rfl (ev_move rfl) ?_
      (first | refine RS_m_yes retB_noPanic rfl rfl rfl rfl ⟨_, rfl, rfl⟩ rfl (ev_nilCheck rfl) ?_ | refine RS_m_yes retB_noPanic rfl rfl rfl rfl ⟨_, rfl, rfl⟩ rfl (ev_nilCheckF (by simp) rfl) ?_)
      refine RS_m_yes retB_noPanic rfl rfl rfl rfl ⟨_, rfl, rfl⟩ rfl (ev_fieldAddr rfl) ?_
      refine RS_q_yes retB_noPanic rfl rfl rfl rfl ⟨_, rfl, rfl⟩ rfl (ev_load rfl LdA) ?_
      refine RS_m_yes retB_noPanic rfl rfl rfl rfl ⟨_, rfl, rfl⟩ rfl (ev_fieldAddr rfl) ?_
      refine RS_q_yes retB_noPanic rfl rfl rfl rfl ⟨_, rfl, rfl⟩ rfl (ev_loadN rfl LnA) ?_
      refine RS_e (RE_eff_yes rfl rfl rfl ⟨_, rfl, rfl⟩ rfl (eff_call rfl (ahead_ctr (some pla) lo e.p true _ (by repeat' first | assumption | apply ArrIn.skip) z1)) ?_); rintro _ _ ⟨rfl, rfl⟩; refine ⟨_, fun _ s => s, ExA, ?_⟩
      refine RS_m_yes retB_noPanic rfl rfl rfl rfl ⟨_, rfl, rfl⟩ rfl (ev_gtr rfl rfl) ?_
      refine RS_m_yes retB_noPanic rfl rfl rfl rfl ⟨_, rfl, rfl⟩ rfl (ev_move rfl) ?_
      refine RS_m_yes retB_noPanic rfl rfl rfl rfl ⟨_, rfl, (decide_eq_false n3)⟩ rfl (ev_fieldAddr rfl) ?_
      refine RS_q_yes retB_noPanic rfl rfl rfl rfl ⟨_, rfl, (decide_eq_false n3)⟩ rfl (ev_load rfl LdA) ?_
      refine RS_m_yes retB_noPanic rfl rfl rfl rfl ⟨_, rfl, (decide_eq_false n3)⟩ rfl (ev_move rfl) ?_
      (first | refine RS_m_yes retB_noPanic rfl rfl rfl rfl ⟨_, rfl, (decide_eq_false n3)⟩ rfl (ev_nilCheck rfl) ?_ | refine RS_m_yes retB_noPanic rfl rfl rfl rfl ⟨_, rfl, (decide_eq_false n3)⟩ rfl (ev_nilCheckF (by simp) rfl) ?_)
      refine RS_m_yes retB_noPanic rfl rfl rfl rfl ⟨_, rfl, (decide_eq_false n3)⟩ rfl (ev_fieldAddr rfl) ?_
      refine RS_q_yes retB_noPanic rfl rfl rfl rfl ⟨_, rfl, (decide_eq_false n3)⟩ rfl (ev_load rfl LdA) ?_
      refine RS_m_yes retB_noPanic rfl rfl rfl rfl ⟨_, rfl, (decide_eq_false n3)⟩ rfl (ev_fieldAddr rfl) ?_
      refine RS_q_yes retB_noPanic rfl rfl rfl rfl ⟨_, rfl, (decide_eq_false n3)⟩ rfl (ev_loadN rfl LnA) ?_
      refine RS_e (RE_eff_yes rfl rfl rfl ⟨_, rfl, (decide_eq_false n3)⟩ rfl (eff_call rfl (ahead_ctr ph hi e.p true _ (by repeat' first | assumption | apply ArrIn.skip) z2)) ?_); rintro _ _ ⟨rfl, rfl⟩; refine ⟨_, fun _ s => s, ExA, ?_⟩
      refine RS_m_yes retB_noPanic rfl rfl rfl rfl ⟨_, rfl, (decide_eq_false n3)⟩ rfl (ev_gtr rfl rfl) ?_
      refine RS_m_yes retB_noPanic rfl rfl rfl rfl ⟨_, rfl, rfl⟩ rfl (ev_pick_f rfl (decide_eq_false n3) rfl) ?_
      refine RS_m_yes retB_noPanic rfl rfl rfl rfl ⟨_, rfl, rfl⟩ rfl (ev_move rfl) ?_
      refine RS_m_yes retB_noPanic rfl rfl rfl rfl ⟨_, rfl, (decide_eq_false n4)⟩ rfl (ev_fieldAddr rfl) ?_
      refine RS_q_yes retB_noPanic rfl rfl rfl rfl ⟨_, rfl, (decide_eq_false n4)⟩ rfl (ev_load rfl LdA) ?_
      refine RS_m_yes retB_noPanic rfl rfl rfl rfl ⟨_, rfl, (decide_eq_false n4)⟩ rfl (ev_move rfl) ?_
      (first | refine RS_m_yes retB_noPanic rfl rfl rfl rfl ⟨_, rfl, (decide_eq_false n4)⟩ rfl (ev_nilCheck rfl) ?_ | refine RS_m_yes retB_noPanic rfl rfl rfl rfl ⟨_, rfl, (decide_eq_false n4)⟩ rfl (ev_nilCheckF (by simp) rfl) ?_)
      refine RS_m_yes retB_noPanic rfl rfl rfl rfl ⟨_, rfl, (decide_eq_false n4)⟩ rfl (ev_fieldAddr rfl) ?_
      refine RS_q_yes retB_noPanic rfl rfl rfl rfl ⟨_, rfl, (decide_eq_false n4)⟩ rfl (ev_load rfl LdA) ?_
      refine RS_m_yes retB_noPanic rfl rfl rfl rfl ⟨_, rfl, (decide_eq_false n4)⟩ rfl (ev_fieldAddr rfl) ?_
      refine RS_q_yes retB_noPanic rfl rfl rfl rfl ⟨_, rfl, (decide_eq_false n4)⟩ rfl (ev_loadN rfl LnA) ?_
      refine RS_e (RE_eff_yes rfl rfl rfl ⟨_, rfl, (decide_eq_false n4)⟩ rfl (eff_call rfl (ahead_ctr (some pla) lo e.p false _ (by repeat' first | assumption | apply ArrIn.skip) z1)) ?_); rintro _ _ ⟨rfl, rfl⟩; refine ⟨_, fun _ s => s, ExA, ?_⟩
      (first | refine RS_m_yes retB_noPanic rfl rfl rfl rfl ⟨_, rfl, (decide_eq_false n4)⟩ rfl (ev_lssN rfl rfl) ?_ | refine RS_m_yes retB_noPanic rfl rfl rfl rfl ⟨_, rfl, (decide_eq_false n4)⟩ rfl (ev_lss rfl rfl) ?_)
      refine RS_m_yes retB_noPanic rfl rfl rfl rfl ⟨_, rfl, rfl⟩ rfl (ev_pick_f rfl (decide_eq_false n4) rfl) ?_
      refine RS_m_yes retB_noPanic rfl rfl rfl rfl ⟨_, rfl, rfl⟩ rfl (ev_move rfl) ?_
      refine RS_m_yes retB_noPanic rfl rfl rfl rfl ⟨_, rfl, (decide_eq_false n5)⟩ rfl (ev_fieldAddr rfl) ?_
      refine RS_q_yes retB_noPanic rfl rfl rfl rfl ⟨_, rfl, (decide_eq_false n5)⟩ rfl (ev_load rfl LdA) ?_
      refine RS_m_yes retB_noPanic rfl rfl rfl rfl ⟨_, rfl, (decide_eq_false n5)⟩ rfl (ev_move rfl) ?_
      (first | refine RS_m_yes retB_noPanic rfl rfl rfl rfl ⟨_, rfl, (decide_eq_false n5)⟩ rfl (ev_nilCheck rfl) ?_ | refine RS_m_yes retB_noPanic rfl rfl rfl rfl ⟨_, rfl, (decide_eq_false n5)⟩ rfl (ev_nilCheckF (by simp) rfl) ?_)
      refine RS_m_yes retB_noPanic rfl rfl rfl rfl ⟨_, rfl, (decide_eq_false n5)⟩ rfl (ev_fieldAddr rfl) ?_
      refine RS_q_yes retB_noPanic rfl rfl rfl rfl ⟨_, rfl, (decide_eq_false n5)⟩ rfl (ev_load rfl LdA) ?_
      refine RS_m_yes retB_noPanic rfl rfl rfl rfl ⟨_, rfl, (decide_eq_false n5)⟩ rfl (ev_fieldAddr rfl) ?_
      refine RS_q_yes retB_noPanic rfl rfl rfl rfl ⟨_, rfl, (decide_eq_false n5)⟩ rfl (ev_loadN rfl LnA) ?_
      refine RS_e (RE_eff_yes rfl rfl rfl ⟨_, rfl, (decide_eq_false n5)⟩ rfl (eff_call rfl (ahead_ctr ph hi e.p false _ (by repeat' first | assumption | apply ArrIn.skip) z2)) ?_); rintro _ _ ⟨rfl, rfl⟩; refine ⟨_, fun _ s => s, ExA, ?_⟩
      (first | refine RS_m_yes retB_noPanic rfl rfl rfl rfl ⟨_, rfl, (decide_eq_false n5)⟩ rfl (ev_lssN rfl rfl) ?_ | refine RS_m_yes retB_noPanic rfl rfl rfl rfl ⟨_, rfl, (decide_eq_false n5)⟩ rfl (ev_lss rfl rfl) ?_)
      refine RS_m_yes retB_noPanic rfl rfl rfl rfl ⟨_, rfl, rfl⟩ rfl (ev_pick_f rfl (decide_eq_false n5) rfl) ?_
      refine RM rfl (ev_pick_t rfl rfl rfl) ?_
      refine RS_nil ?_
      refine GN ?_
      refine G_cond_f rfl (decide_eq_false n6) ?_
      refine GN ?_
      refine G_region ?_
      (first | refine GQ (ev_addN (q := 1) rfl rfl NgA) ?_ | refine GQ (ev_add rfl rfl NgA) ?_)
      refine GQ (ev_move rfl) ?_
      refine GO_nil ?_
      refine GN ?_
      exact G_round (k + 1) (by omega) (by omega) ⟨rfl, rfl, rfl, rfl, rfl, trivial⟩ EnA
    · refine GN ?_
      refine G_draw (.q 0 (.q 1 (.q 2 (.q 3 (.q 4 (.q 5 (.q 6 (.q 7 (.q 8 (.q 9 (.q 10 (.q 11 (.q 12 (.q 13 (.e 14 (.q 15 (.q 16 .nil))))))))))))))))) (by kernel_rfl) (by kernel_rfl) ?_
      refine RM rfl (ev_move rfl) ?_
      refine RM rfl (ev_gtr rfl rfl) ?_
      refine RM rfl (ev_move rfl) ?_
      refine RS_q_no retB_noPanic rfl rfl rfl ⟨_, rfl, (decide_eq_false (by omega))⟩ rfl ?_
      refine RS_q_no retB_noPanic rfl rfl rfl ⟨_, rfl, (decide_eq_false (by omega))⟩ rfl ?_
      refine RS_q_no retB_noPanic rfl rfl rfl ⟨_, rfl, (decide_eq_false (by omega))⟩ rfl ?_
      refine RS_q_no retB_noPanic rfl rfl rfl ⟨_, rfl, (decide_eq_false (by omega))⟩ rfl ?_
      refine RS_q_no retB_noPanic rfl rfl rfl ⟨_, rfl, (decide_eq_false (by omega))⟩ rfl ?_
      refine RS_q_no retB_noPanic rfl rfl rfl ⟨_, rfl, (decide_eq_false (by omega))⟩ rfl ?_
      refine RS_q_no retB_noPanic rfl rfl rfl ⟨_, rfl, (decide_eq_false (by omega))⟩ rfl ?_
      refine RS_q_no retB_noPanic rfl rfl rfl ⟨_, rfl, (decide_eq_false (by omega))⟩ rfl ?_
      refine RS_q_no retB_noPanic rfl rfl rfl ⟨_, rfl, (decide_eq_false (by omega))⟩ rfl ?_
      refine RS_q_no retB_noPanic rfl rfl rfl ⟨_, rfl, (decide_eq_false (by omega))⟩ rfl ?_
      refine RS_q_no retB_noPanic rfl rfl rfl ⟨_, rfl, (decide_eq_false (by omega))⟩ rfl ?_
      refine RS_e (RE_no rfl rfl rfl ⟨_, rfl, (decide_eq_false (by omega))⟩ rfl ?_)
      refine RS_q_no retB_noPanic rfl rfl rfl ⟨_, rfl, (decide_eq_false (by omega))⟩ rfl ?_
      refine RM rfl (ev_pick_f rfl (decide_eq_false (by omega)) rfl) ?_
      refine RS_nil ?_
      refine GN ?_
      refine G_cond_f rfl rfl ?_
      refine GN ?_
      refine G_draw (.q 0 (.q 1 (.q 2 (.q 3 (.q 4 (.q 5 (.q 6 (.q 7 (.q 8 (.q 9 (.q 10 (.q 11 (.q 12 (.q 13 (.q 14 (.q 15 (.q 16 (.e 17 (.q 18 (.q 19 (.q 20 (.q 21 (.q 22 (.q 23 (.q 24 (.q 25 (.q 26 (.e 27 (.q 28 (.q 29 .nil)))))))))))))))))))))))))))))) (by kernel_rfl) (by kernel_rfl) ?_
      refine RM rfl (ev_move rfl) ?_
      refine RM rfl (ev_move rfl) ?_
      refine RS_m_yes retB_noPanic rfl rfl rfl rfl ⟨_, rfl, rfl⟩ rfl (ev_fieldAddr rfl) ?_
      refine RS_q_yes retB_noPanic rfl rfl rfl rfl ⟨_, rfl, rfl⟩ rfl (ev_load rfl LdA) ?_
      refine RS_m_yes retB_noPanic rfl rfl rfl rfl ⟨_, rfl, rfl⟩ rfl (ev_fieldAddr rfl) ?_
      refine RS_q_yes retB_noPanic rfl rfl rfl rfl ⟨_, rfl, rfl⟩ rfl (ev_load rfl LdA) ?_
      (first | refine RS_m_yes retB_noPanic rfl rfl rfl rfl ⟨_, rfl, rfl⟩ rfl (ev_addN rfl rfl NgA) ?_ | refine RS_m_yes retB_noPanic rfl rfl rfl rfl ⟨_, rfl, rfl⟩ rfl (ev_add rfl rfl NgA) ?_)
      refine RS_m_yes retB_noPanic rfl rfl rfl rfl ⟨_, rfl, rfl⟩ rfl (ev_move rfl) ?_
      refine RS_m_yes retB_noPanic rfl rfl rfl rfl ⟨_, rfl, rfl⟩ rfl (ev_neq rfl rfl) ?_
      refine RM rfl (ev_pick_t rfl rfl rfl) ?_
      refine RM rfl (ev_move rfl) ?_
      refine RS_m_yes retB_noPanic rfl rfl rfl rfl ⟨_, rfl, (decide_eq_false n0)⟩ rfl (ev_fieldAddr rfl) ?_
      refine RS_q_yes retB_noPanic rfl rfl rfl rfl ⟨_, rfl, (decide_eq_false n0)⟩ rfl (ev_load rfl LdA) ?_
      refine RS_m_yes retB_noPanic rfl rfl rfl rfl ⟨_, rfl, (decide_eq_false n0)⟩ rfl (ev_move rfl) ?_
      (first | refine RS_m_yes retB_noPanic rfl rfl rfl rfl ⟨_, rfl, (decide_eq_false n0)⟩ rfl (ev_nilCheck rfl) ?_ | refine RS_m_yes retB_noPanic rfl rfl rfl rfl ⟨_, rfl, (decide_eq_false n0)⟩ rfl (ev_nilCheckF (by simp) rfl) ?_)
      refine RS_m_yes retB_noPanic rfl rfl rfl rfl ⟨_, rfl, (decide_eq_false n0)⟩ rfl (ev_fieldAddr rfl) ?_
      refine RS_q_yes retB_noPanic rfl rfl rfl rfl ⟨_, rfl, (decide_eq_false n0)⟩ rfl (ev_load rfl LdA) ?_
      refine RS_e (RE_eff_yes rfl rfl rfl ⟨_, rfl, (decide_eq_false n0)⟩ rfl (eff_call rfl (size_ctr (some pla) lo _ (by repeat' first | assumption | apply ArrIn.skip))) ?_); rintro _ _ ⟨rfl, rfl⟩; refine ⟨_, fun _ s => s, ExA, ?_⟩
      refine RS_m_yes retB_noPanic rfl rfl rfl rfl ⟨_, rfl, (decide_eq_false n0)⟩ rfl (ev_gtr rfl rfl) ?_
      refine RM rfl (ev_pick_f rfl (decide_eq_false n0) rfl) ?_
      refine RM rfl (ev_move rfl) ?_
      refine RS_m_yes retB_noPanic rfl rfl rfl rfl ⟨_, rfl, (decide_eq_false n1)⟩ rfl (ev_fieldAddr rfl) ?_
      refine RS_q_yes retB_noPanic rfl rfl rfl rfl ⟨_, rfl, (decide_eq_false n1)⟩ rfl (ev_load rfl LdA) ?_
      refine RS_m_yes retB_noPanic rfl rfl rfl rfl ⟨_, rfl, (decide_eq_false n1)⟩ rfl (ev_move rfl) ?_
      (first | refine RS_m_yes retB_noPanic rfl rfl rfl rfl ⟨_, rfl, (decide_eq_false n1)⟩ rfl (ev_nilCheck rfl) ?_ | refine RS_m_yes retB_noPanic rfl rfl rfl rfl ⟨_, rfl, (decide_eq_false n1)⟩ rfl (ev_nilCheckF (by simp) rfl) ?_)
      refine RS_m_yes retB_noPanic rfl rfl rfl rfl ⟨_, rfl, (decide_eq_false n1)⟩ rfl (ev_fieldAddr rfl) ?_
      refine RS_q_yes retB_noPanic rfl rfl rfl rfl ⟨_, rfl, (decide_eq_false n1)⟩ rfl (ev_load rfl LdA) ?_
      refine RS_e (RE_eff_yes rfl rfl rfl ⟨_, rfl, (decide_eq_false n1)⟩ rfl (eff_call rfl (size_ctr ph hi _ (by repeat' first | assumption | apply ArrIn.skip))) ?_); rintro _ _ ⟨rfl, rfl⟩; refine ⟨_, fun _ s => s, ExA, ?_⟩
      refine RS_m_yes retB_noPanic rfl rfl rfl rfl ⟨_, rfl, (decide_eq_false n1)⟩ rfl (ev_gtr rfl rfl) ?_
      refine RM rfl (ev_pick_f rfl (decide_eq_false n1) rfl) ?_
      refine RS_nil ?_
      refine GN ?_
      refine G_cond_f rfl (decide_eq_false n2) ?_
      refine GN ?_
      refine G_draw (.q 0 (.q 1 (.q 2 (.q 3 (.q 4 (.q 5 (.q 6 (.q 7 (.q 8 (.q 9 (.e 10 (.q 11 (.q 12 (.q 13 (.q 14 (.q 15 (.q 16 (.q 17 (.q 18 (.q 19 (.q 20 (.e 21 (.q 22 (.q 23 (.q 24 (.q 25 (.q 26 (.q 27 (.q 28 (.q 29 (.q 30 (.q 31 (.q 32 (.e 33 (.q 34 (.q 35 (.q 36 (.q 37 (.q 38 (.q 39 (.q 40 (.q 41 (.q 42 (.q 43 (.q 44 (.e 45 (.q 46 (.q 47 (.q 48 .nil))))))))))))))))))))))))))))))))))))))))))))))))) (by kernel_rfl) (by kernel_rfl) ?_
      refine RM rfl (ev_move rfl) ?_
      refine RM rfl (ev_move rfl) ?_
      refine RS_m_yes retB_noPanic rfl rfl rfl rfl ⟨_, rfl, rfl⟩ rfl (ev_fieldAddr rfl) ?_
      refine RS_q_yes retB_noPanic rfl rfl rfl rfl ⟨_, rfl, rfl⟩ rfl (ev_load rfl LdA) ?_
      refine RS_m_yes retB_noPanic rfl rfl rfl rfl ⟨_, rfl, rfl⟩ rfl (ev_move rfl) ?_
      (first | refine RS_m_yes retB_noPanic rfl rfl rfl rfl ⟨_, rfl, rfl⟩ rfl (ev_nilCheck rfl) ?_ | refine RS_m_yes retB_noPanic rfl rfl rfl rfl ⟨_, rfl, rfl⟩ rfl (ev_nilCheckF (by simp) rfl) ?_)
      refine RS_m_yes retB_noPanic rfl rfl rfl rfl ⟨_, rfl, rfl⟩ rfl (ev_fieldAddr rfl) ?_
      refine RS_q_yes retB_noPanic rfl rfl rfl rfl ⟨_, rfl, rfl⟩ rfl (ev_load rfl LdA) ?_
      refine RS_m_yes retB_noPanic rfl rfl rfl rfl ⟨_, rfl, rfl⟩ rfl (ev_fieldAddr rfl) ?_
      refine RS_q_yes retB_noPanic rfl rfl rfl rfl ⟨_, rfl, rfl⟩ rfl (ev_loadN rfl LnA) ?_
      refine RS_e (RE_eff_yes rfl rfl rfl ⟨_, rfl, rfl⟩ rfl (eff_call rfl (ahead_ctr (some pla) lo e.p true _ (by repeat' first | assumption | apply ArrIn.skip) z1)) ?_); rintro _ _ ⟨rfl, rfl⟩; refine ⟨_, fun _ s => s, ExA, ?_⟩
      refine RS_m_yes retB_noPanic rfl rfl rfl rfl ⟨_, rfl, rfl⟩ rfl (ev_gtr rfl rfl) ?_
      refine RS_m_yes retB_noPanic rfl rfl rfl rfl ⟨_, rfl, rfl⟩ rfl (ev_move rfl) ?_
      refine RS_m_yes retB_noPanic rfl rfl rfl rfl ⟨_, rfl, (decide_eq_false n3)⟩ rfl (ev_fieldAddr rfl) ?_
      refine RS_q_yes retB_noPanic rfl rfl rfl rfl ⟨_, rfl, (decide_eq_false n3)⟩ rfl (ev_load rfl LdA) ?_
      refine RS_m_yes retB_noPanic rfl rfl rfl rfl ⟨_, rfl, (decide_eq_false n3)⟩ rfl (ev_move rfl) ?_
      (first | refine RS_m_yes retB_noPanic rfl rfl rfl rfl ⟨_, rfl, (decide_eq_false n3)⟩ rfl (ev_nilCheck rfl) ?_ | refine RS_m_yes retB_noPanic rfl rfl rfl rfl ⟨_, rfl, (decide_eq_false n3)⟩ rfl (ev_nilCheckF (by simp) rfl) ?_)
      refine RS_m_yes retB_noPanic rfl rfl rfl rfl ⟨_, rfl, (decide_eq_false n3)⟩ rfl (ev_fieldAddr rfl) ?_
      refine RS_q_yes retB_noPanic rfl rfl rfl rfl ⟨_, rfl, (decide_eq_false n3)⟩ rfl (ev_load rfl LdA) ?_
      refine RS_m_yes retB_noPanic rfl rfl rfl rfl ⟨_, rfl, (decide_eq_false n3)⟩ rfl (ev_fieldAddr rfl) ?_
      refine RS_q_yes retB_noPanic rfl rfl rfl rfl ⟨_, rfl, (decide_eq_false n3)⟩ rfl (ev_loadN rfl LnA) ?_
      refine RS_e (RE_eff_yes rfl rfl rfl ⟨_, rfl, (decide_eq_false n3)⟩ rfl (eff_call rfl (ahead_ctr ph hi e.p true _ (by repeat' first | assumption | apply ArrIn.skip) z2)) ?_); rintro _ _ ⟨rfl, rfl⟩; refine ⟨_, fun _ s => s, ExA, ?_⟩
      refine RS_m_yes retB_noPanic rfl rfl rfl rfl ⟨_, rfl, (decide_eq_false n3)⟩ rfl (ev_gtr rfl rfl) ?_
      refine RS_m_yes retB_noPanic rfl rfl rfl rfl ⟨_, rfl, rfl⟩ rfl (ev_pick_f rfl (decide_eq_false n3) rfl) ?_
      refine RS_m_yes retB_noPanic rfl rfl rfl rfl ⟨_, rfl, rfl⟩ rfl (ev_move rfl) ?_
      refine RS_m_yes retB_noPanic rfl rfl rfl rfl ⟨_, rfl, (decide_eq_false n4)⟩ rfl (ev_fieldAddr rfl) ?_
      refine RS_q_yes retB_noPanic rfl rfl rfl rfl ⟨_, rfl, (decide_eq_false n4)⟩ rfl (ev_load rfl LdA) ?_
      refine RS_m_yes retB_noPanic rfl rfl rfl rfl ⟨_, rfl, (decide_eq_false n4)⟩ rfl (ev_move rfl) ?_
      (first | refine RS_m_yes retB_noPanic rfl rfl rfl rfl ⟨_, rfl, (decide_eq_false n4)⟩ rfl (ev_nilCheck rfl) ?_ | refine RS_m_yes retB_noPanic rfl rfl rfl rfl ⟨_, rfl, (decide_eq_false n4)⟩ rfl (ev_nilCheckF (by simp) rfl) ?_)
      refine RS_m_yes retB_noPanic rfl rfl rfl rfl ⟨_, rfl, (decide_eq_false n4)⟩ rfl (ev_fieldAddr rfl) ?_
      refine RS_q_yes retB_noPanic rfl rfl rfl rfl ⟨_, rfl, (decide_eq_false n4)⟩ rfl (ev_load rfl LdA) ?_
      refine RS_m_yes retB_noPanic rfl rfl rfl rfl ⟨_, rfl, (decide_eq_false n4)⟩ rfl (ev_fieldAddr rfl) ?_
      refine RS_q_yes retB_noPanic rfl rfl rfl rfl ⟨_, rfl, (decide_eq_false n4)⟩ rfl (ev_loadN rfl LnA) ?_
      refine RS_e (RE_eff_yes rfl rfl rfl ⟨_, rfl, (decide_eq_false n4)⟩ rfl (eff_call rfl (ahead_ctr (some pla) lo e.p false _ (by repeat' first | assumption | apply ArrIn.skip) z1)) ?_); rintro _ _ ⟨rfl, rfl⟩; refine ⟨_, fun _ s => s, ExA, ?_⟩
      (first | refine RS_m_yes retB_noPanic rfl rfl rfl rfl ⟨_, rfl, (decide_eq_false n4)⟩ rfl (ev_lssN rfl rfl) ?_ | refine RS_m_yes retB_noPanic rfl rfl rfl rfl ⟨_, rfl, (decide_eq_false n4)⟩ rfl (ev_lss rfl rfl) ?_)
      refine RS_m_yes retB_noPanic rfl rfl rfl rfl ⟨_, rfl, rfl⟩ rfl (ev_pick_f rfl (decide_eq_false n4) rfl) ?_
      refine RS_m_yes retB_noPanic rfl rfl rfl rfl ⟨_, rfl, rfl⟩ rfl (ev_move rfl) ?_
      refine RS_m_yes retB_noPanic rfl rfl rfl rfl ⟨_, rfl, (decide_eq_false n5)⟩ rfl (ev_fieldAddr rfl) ?_
      refine RS_q_yes retB_noPanic rfl rfl rfl rfl ⟨_, rfl, (decide_eq_false n5)⟩ rfl (ev_load rfl LdA) ?_
      refine RS_m_yes retB_noPanic rfl rfl rfl rfl ⟨_, rfl, (decide_eq_false n5)⟩ rfl (ev_move rfl) ?_
      (first | refine RS_m_yes retB_noPanic rfl rfl rfl rfl ⟨_, rfl, (decide_eq_false n5)⟩ rfl (ev_nilCheck rfl) ?_ | refine RS_m_yes retB_noPanic rfl rfl rfl rfl ⟨_, rfl, (decide_eq_false n5)⟩ rfl (ev_nilCheckF (by simp) rfl) ?_)
      refine RS_m_yes retB_noPanic rfl rfl rfl rfl ⟨_, rfl, (decide_eq_false n5)⟩ rfl (ev_fieldAddr rfl) ?_
      refine RS_q_yes retB_noPanic rfl rfl rfl rfl ⟨_, rfl, (decide_eq_false n5)⟩ rfl (ev_load rfl LdA) ?_
      refine RS_m_yes retB_noPanic rfl rfl rfl rfl ⟨_, rfl, (decide_eq_false n5)⟩ rfl (ev_fieldAddr rfl) ?_
      refine RS_q_yes retB_noPanic rfl rfl rfl rfl ⟨_, rfl, (decide_eq_false n5)⟩ rfl (ev_loadN rfl LnA) ?_
      refine RS_e (RE_eff_yes rfl rfl rfl ⟨_, rfl, (decide_eq_false n5)⟩ rfl (eff_call rfl (ahead_ctr ph hi e.p false _ (by repeat' first | assumption | apply ArrIn.skip) z2)) ?_); rintro _ _ ⟨rfl, rfl⟩; refine ⟨_, fun _ s => s, ExA, ?_⟩
      (first | refine RS_m_yes retB_noPanic rfl rfl rfl rfl ⟨_, rfl, (decide_eq_false n5)⟩ rfl (ev_lssN rfl rfl) ?_ | refine RS_m_yes retB_noPanic rfl rfl rfl rfl ⟨_, rfl, (decide_eq_false n5)⟩ rfl (ev_lss rfl rfl) ?_)
      refine RS_m_yes retB_noPanic rfl rfl rfl rfl ⟨_, rfl, rfl⟩ rfl (ev_pick_f rfl (decide_eq_false n5) rfl) ?_
      refine RM rfl (ev_pick_t rfl rfl rfl) ?_
      refine RS_nil ?_
      refine GN ?_
      refine G_cond_f rfl (decide_eq_false n6) ?_
      refine GN ?_
      refine G_region ?_
      (first | refine GQ (ev_addN (q := 1) rfl rfl NgA) ?_ | refine GQ (ev_add rfl rfl NgA) ?_)
      refine GQ (ev_move rfl) ?_
      refine GO_nil ?_
      refine GN ?_
      exact G_round (k + 1) (by omega) (by omega) ⟨rfl, rfl, rfl, rfl, rfl, trivial⟩ EnA
  · refine GN ?_
    refine G_draw (.q 0 (.q 1 (.q 2 (.q 3 (.e 4 (.q 5 (.q 6 (.q 7 (.q 8 (.q 9 (.e 10 (.q 11 (.q 12 (.q 13 (.q 14 (.q 15 (.q 16 (.q 17 (.q 18 (.q 19 (.q 20 (.q 21 (.q 22 (.q 23 (.q 24 (.q 26 (.q 27 (.q 28 (.q 29 (.e 25 (.e 30 (.q 31 (.q 32 (.q 33 (.q 34 (.q 35 .nil)))))))))))))))))))))))))))))))))))) (by kernel_rfl) (by kernel_rfl) ?_
    refine RM rfl (ev_move rfl) ?_
    (first | refine RM rfl (ev_nilCheck rfl) ?_ | refine RM rfl (ev_nilCheckF (by simp) rfl) ?_)
    refine RM rfl (ev_fieldAddr rfl) ?_
    refine RQ rfl (ev_load rfl LdA) ?_
    refine RS_e (RE_eff rfl rfl rfl (eff_call rfl (slo _ _ (by repeat' first | assumption | apply ArrIn.skip))) ?_); rintro _ _ ⟨rfl, rfl⟩; refine ⟨_, fun _ s => s, ExA, ?_⟩
    refine RM rfl (ev_move rfl) ?_
    refine RS_m_yes retB_noPanic rfl rfl rfl rfl ⟨_, rfl, rfl⟩ rfl (ev_move rfl) ?_
    (first | refine RS_m_yes retB_noPanic rfl rfl rfl rfl ⟨_, rfl, rfl⟩ rfl (ev_nilCheck rfl) ?_ | refine RS_m_yes retB_noPanic rfl rfl rfl rfl ⟨_, rfl, rfl⟩ rfl (ev_nilCheckF (by simp) rfl) ?_)
    refine RS_m_yes retB_noPanic rfl rfl rfl rfl ⟨_, rfl, rfl⟩ rfl (ev_fieldAddr rfl) ?_
    refine RS_q_yes retB_noPanic rfl rfl rfl rfl ⟨_, rfl, rfl⟩ rfl (ev_load rfl LdA) ?_
    refine RS_e (RE_eff_yes rfl rfl rfl ⟨_, rfl, rfl⟩ rfl (eff_call rfl (shi _ _ (by repeat' first | assumption | apply ArrIn.skip))) ?_); rintro _ _ ⟨rfl, rfl⟩; refine ⟨_, fun _ s => s, ExA, ?_⟩
    refine RM rfl (ev_pick_t rfl rfl rfl) ?_
    refine RM rfl (ev_move rfl) ?_
    refine RS_m_yes retB_noPanic rfl rfl rfl rfl ⟨_, rfl, rfl⟩ rfl (ev_move rfl) ?_
    (first | refine RS_m_yes retB_noPanic rfl rfl rfl rfl ⟨_, rfl, rfl⟩ rfl (ev_notP rfl) ?_ | refine RS_m_yes retB_noPanic rfl rfl rfl rfl ⟨_, rfl, rfl⟩ rfl (ev_not rfl) ?_)
    refine RS_m_yes retB_noPanic rfl rfl rfl rfl ⟨_, rfl, rfl⟩ rfl (ev_move rfl) ?_
    refine RS_m_yes retB_noPanic rfl rfl rfl rfl ⟨_, rfl, rfl⟩ rfl (ev_move rfl) ?_
    (first | refine RS_m_yes retB_noPanic rfl rfl rfl rfl ⟨_, rfl, rfl⟩ rfl (ev_nilCheck rfl) ?_ | refine RS_m_yes retB_noPanic rfl rfl rfl rfl ⟨_, rfl, rfl⟩ rfl (ev_nilCheckF (by simp) rfl) ?_)
    refine RS_m_yes retB_noPanic rfl rfl rfl rfl ⟨_, rfl, rfl⟩ rfl (ev_fieldAddr rfl) ?_
    refine RS_q_yes retB_noPanic rfl rfl rfl rfl ⟨_, rfl, rfl⟩ rfl (ev_load rfl LdA) ?_
    refine RS_q_yes retB_noPanic rfl rfl rfl rfl ⟨_, rfl, rfl⟩ rfl (ev_len rfl) ?_
    refine RS_m_yes retB_noPanic rfl rfl rfl rfl ⟨_, rfl, rfl⟩ rfl (ev_move rfl) ?_
    (first | refine RS_m_yes retB_noPanic rfl rfl rfl rfl ⟨_, rfl, rfl⟩ rfl (ev_nilCheck rfl) ?_ | refine RS_m_yes retB_noPanic rfl rfl rfl rfl ⟨_, rfl, rfl⟩ rfl (ev_nilCheckF (by simp) rfl) ?_)
    refine RS_m_yes retB_noPanic rfl rfl rfl rfl ⟨_, rfl, rfl⟩ rfl (ev_fieldAddr rfl) ?_
    refine RS_q_yes retB_noPanic rfl rfl rfl rfl ⟨_, rfl, rfl⟩ rfl (ev_load rfl LdA) ?_
    refine RS_m_yes retB_noPanic rfl rfl rfl rfl ⟨_, rfl, rfl⟩ rfl (ev_move rfl) ?_
    (first | refine RS_m_yes retB_noPanic rfl rfl rfl rfl ⟨_, rfl, rfl⟩ rfl (ev_nilCheck rfl) ?_ | refine RS_m_yes retB_noPanic rfl rfl rfl rfl ⟨_, rfl, rfl⟩ rfl (ev_nilCheckF (by simp) rfl) ?_)
    refine RS_m_yes retB_noPanic rfl rfl rfl rfl ⟨_, rfl, rfl⟩ rfl (ev_fieldAddr rfl) ?_
    refine RS_q_yes retB_noPanic rfl rfl rfl rfl ⟨_, rfl, rfl⟩ rfl (ev_load rfl LdA) ?_
    refine RS_e (RE_eff_yes rfl rfl rfl ⟨_, rfl, rfl⟩ rfl (eff_call rfl (size_ctr (some pla) lo _ (by repeat' first | assumption | apply ArrIn.skip))) ?_); rintro _ _ ⟨rfl, rfl⟩; refine ⟨_, fun _ s => s, ExA, ?_⟩
    refine RS_e (RE_eff_yes rfl rfl rfl ⟨_, rfl, rfl⟩ rfl (eff_call rfl (size_ctr ph hi _ (by repeat' first | assumption | apply ArrIn.skip))) ?_); rintro _ _ ⟨rfl, rfl⟩; refine ⟨_, fun _ s => s, ExA, ?_⟩
    (first | refine RS_m_yes retB_noPanic rfl rfl rfl rfl ⟨_, rfl, rfl⟩ rfl (ev_addN rfl rfl NgA) ?_ | refine RS_m_yes retB_noPanic rfl rfl rfl rfl ⟨_, rfl, rfl⟩ rfl (ev_add rfl rfl NgA) ?_)
    refine RS_m_yes retB_noPanic rfl rfl rfl rfl ⟨_, rfl, rfl⟩ rfl (ev_eql rfl rfl) ?_
    refine RS_m_yes retB_noPanic rfl rfl rfl rfl ⟨_, rfl, rfl⟩ rfl (ev_pick_f rfl rfl rfl) ?_
    refine RM rfl (ev_pick_t rfl rfl rfl) ?_
    refine RM rfl (ev_assign rfl) ?_
    refine RS_nil ?_
    refine GN ?_
    refine G_ret rfl (.tmp rfl .nil) EnA ⟨by simp [retv]; omega, rfl⟩
end Go.Proofs.YtkoncepjfgnjlaaGreat
/- The law CascadeLeads' walk. -/
namespace Go.Proofs.YtkoncepjfgnjlaaGreat
attribute [local irreducible] sat
set_option linter.unusedVariables false
set_option linter.unusedSimpArgs false
set_option maxRecDepth 100000

theorem Len_ctr (p : Option Addr) (t : Arr) (L : List HP) (h : ArrIn L p t) : Ctr Tryz.prog 100 #[.pointer p] L fun v L' => v = .int .i64 (t.es.length : Nat) ∧ L' = L := by
  refine Ctr_of (fn := Tryz.f100) (n := 5) Tryz.func100 rfl rfl rfl ?_
  intro g F
  refine GN ?_
  refine G_region ?_
  refine GQ (ev_assign rfl) ?_
  refine GO_nil ?_
  refine GN ?_
  refine G_region ?_
  refine GQ (ev_move rfl) ?_
  refine GE (eff_call rfl (size_ctr p t _ (by repeat' first | assumption | apply ArrIn.skip))) ?_; rintro _ _ ⟨rfl, rfl⟩
  refine GQ (ev_assign rfl) ?_
  refine GO_nil ?_
  refine GN ?_
  refine G_ret rfl (.tmp rfl .nil) EnA ⟨rfl, rfl⟩
theorem Check_ctr (a : Addr) (L : List HP) (hs : ∀ X, Ctr Tryz.prog 101 #[.pointer (some a)] (X :: L) fun v M => v = .bool true ∧ M = X :: L) : Ctr Tryz.prog 68 #[.pointer (some a)] L fun v L' => v = .bool true ∧ L' = L := by
  refine Ctr_of (fn := Tryz.f68) (n := 9) Tryz.func68 rfl rfl rfl ?_
  intro g F
  refine GN ?_
  refine G_region ?_
  refine GQ (ev_assign rfl) ?_
  refine GO_nil ?_
  refine GN ?_
  refine G_region ?_
  refine GQ (ev_move rfl) ?_
  (first | refine GQ (ev_neqNil rfl rfl) ?_ | refine GQ (ev_neqPtr rfl rfl) ?_)
  refine GQ (ev_move rfl) ?_
  refine GO_yes rfl rfl rfl rfl ?_
  refine GQ (ev_move rfl) ?_
  refine GO_yes rfl rfl rfl rfl ?_
  refine GE (eff_call rfl (hs F)) ?_; rintro _ _ ⟨rfl, rfl⟩
  refine GQ (ev_pick_t rfl rfl rfl) ?_
  refine GQ (ev_assign rfl) ?_
  refine GO_nil ?_
  refine GN ?_
  refine G_ret rfl (.tmp rfl .nil) EnA ⟨rfl, rfl⟩
def pa : Pt := ⟨1, 0, 5⟩
def pb : Pt := ⟨2, 3, 2⟩
end Go.Proofs.YtkoncepjfgnjlaaGreat
/- A tree of lists that lead into one another: Report, Count, Levels, Check. -/
namespace Go.Proofs.YtkoncepjfgnjlaaGreat
attribute [local irreducible] sat
set_option linter.unusedVariables false
set_option linter.unusedSimpArgs false
set_option maxRecDepth 100000

/-- The ids of those that are in a box. -/
def idsB (b : Bx) (l : List Pt) : List Int := srt ((l.filter (inB b)).map (·.id))
theorem begR_fnd {b : Bx} {T : RT} {l : List Pt} (o : T.of l) (a : AscO Pt.less l) : srt ((begR b T).fnd b) = idsB b l := by
  unfold idsB begR
  by_cases hy : b.y1 ≤ b.y2
  · rw [if_pos hy]; exact srt_congr (o.fnd_perm hy a)
  · rw [if_neg hy]
    have : l.filter (inB b) = [] := List.filter_eq_nil_iff.2 fun p _ => by unfold inB Bx.has wthn; simp; omega
    rw [this]; rfl
theorem begR_good {b : Bx} {T : RT} (h : T.good) : (begR b T).good ∧ (begR b T).sz ≤ T.sz ∧ (b.y1 ≤ b.y2 ∨ begR b T = .nil) := by
  unfold begR
  by_cases hy : b.y1 ≤ b.y2
  · rw [if_pos hy]; exact ⟨h, Nat.le_refl _, .inl hy⟩
  · rw [if_neg hy]; exact ⟨⟨[], rfl, .nil⟩, Nat.zero_le _, .inr rfl⟩
theorem begR_in {b : Bx} {T : RT} {L : List HP} (h : RIn L T) : RIn L (begR b T) := by
  unfold begR; split
  · exact h
  · trivial
theorem begR_fnd_len {b : Bx} {T : RT} (h : T.good) : ((begR b T).fnd b).length ≤ T.sz := by
  obtain ⟨g1, g2, g3⟩ := begR_good (b := b) h
  rcases g3 with g3 | g3
  · have := g1.fnd_len g3; omega
  · rw [g3]; exact Nat.zero_le _
section
variable {t : Nat} {T : RT} {A : Option Addr} {c : Nat} {l : List Pt} {L : List HP} (h : TR L t T A c l)
include h
theorem tCount_ctr (b : Bx) (hn : l.length ≤ 100000) : Ctr Tryz.prog 51 #[.pointer (some ⟨t, 0, none⟩), .agg #[.int .i64 b.x1, .int .i64 b.x2, .int .i64 b.y1, .int .i64 b.y2]] L fun v L' => v = .int .i64 ((idsB b l).length : Nat) ∧ L' = L := by
  have hsz : T.sz = l.length := h.o.len
  obtain ⟨g1, g2, g3⟩ := begR_good (b := b) h.good
  have hfl := begR_fnd_len (b := b) h.good
  have e := begR_fnd (b := b) h.o h.a
  rw [← e]
  have hin := begR_in (b := b) h.i
  have ha := fun A1 M (hi : RIn M (begR b T)) (hr : Rd M A1 1 (partsR b [begR b T])) => all_ctr b (wtR [begR b T]) [begR b T] A1 1 1 M rfl (by simpa using g1) (by simp only [spR, List.map_cons, List.map_nil, List.sum_cons, List.sum_nil]; omega) (g3.imp id fun e x hx => by simp at hx; rw [hx, e]) (by omega) (by simpa using hi) hr
  have e1 : fndR b [begR b T] = (begR b T).fnd b := by simp [fndR]
  rw [e1] at ha
  have hsl := srtI_len ((begR b T).fnd b)
  rw [hsl]
  have hb := fun M hM => tbegin_ctr (L := M) (t := t) (T := T) (A := A) (c := c) (l := l) hM b
  generalize begR b T = x at *
  have hrd : ∀ (X : Nat) (M : List HP), Rd (blk X 84 [.pointer x.addr, .int .i64 (x.arr.pts.countP (belowF b.y1) : Nat), .int .i64 (x.arr.pts.countP (upToF b.y2) : Nat)] :: M) (some ⟨X, 0, none⟩) 1 (partsR b [x]) := fun X M => Rc.blk rfl
  refine Ctr_of (fn := Tryz.f51) (n := 17) Tryz.func51 rfl rfl rfl ?_
  intro g F
  refine GN ?_
  refine G_region ?_
  refine GE (eff_box rfl) ?_; rintro _ _ ⟨b3, rfl, rfl⟩
  refine GQ (ev_assign rfl) ?_
  refine GO_nil ?_
  refine GN ?_
  refine G_draw (.q 0 (.q 1 (.q 2 (.e 3 (.e 4 (.e 5 (.q 6 (.q 7 (.q 8 (.q 9 (.q 10 .nil))))))))))) (by kernel_rfl) (by kernel_rfl) ?_
  refine RQ rfl (ev_loadN rfl LnA) ?_
  refine RM rfl (ev_move rfl) ?_
  refine RQ rfl (ev_loadN rfl LnA) ?_
  refine RS_e (RE_eff rfl rfl rfl (eff_call rfl (hb _ (by repeat' first | exact h | apply TR.skip))) ?_); rintro _ _ ⟨rfl, rfl⟩; refine ⟨_, fun _ s => s, ExA, ?_⟩
  refine RS_e (RE_eff rfl rfl rfl (eff_buildSlice1 (by rfl) rfl rfl) ?_); rintro _ _ ⟨b12, rfl, rfl⟩; refine ⟨_, fun _ s => s, ExA, ?_⟩
  refine RS_e (RE_eff rfl rfl rfl (eff_call rfl (ha (some ⟨b12, 0, none⟩) _ (by repeat' first | exact hin | apply RIn.skip) (hrd _ _))) ?_); rintro _ _ ⟨A2, c2, rfl, hA2, rfl⟩; refine ⟨_, fun _ s => s, ExA, ?_⟩
  refine RM rfl (ev_move rfl) ?_
  refine RM rfl (ev_extract rfl rfl) ?_
  refine RM rfl (ev_extract rfl rfl) ?_
  refine RM rfl (ev_assign rfl) ?_
  refine RM rfl (ev_assign rfl) ?_
  refine RS_nil ?_
  refine GN ?_
  refine G_region ?_
  refine GQ (ev_move rfl) ?_
  refine GQ (ev_assign rfl) ?_
  refine GO_nil ?_
  refine GN ?_
  refine G_ret rfl (.tmp rfl .nil) EnA ⟨rfl, rfl⟩
end
end Go.Proofs.YtkoncepjfgnjlaaGreat
/- A range over a function, with two variables. No program stands in this text. -/
namespace Go.Proofs.YtkoncepjfgnjlaaGreat
open Go.RowKit
set_option linter.unusedVariables false
set_option linter.unusedSimpArgs false
section
variable {P : Program} {fn : Func} {g : Glob} {n : Nat} {K : List Kt} {σ : Env} {L : List HP} {B : Exit → Act → World → Prop}
/-- What a loop's rounds come to, its record being R, where it has two variables. -/
def Rnd2 (P : Program) (n : Nat) (σ : Env) (l : Nat) (p p' : Tmp) (assign body : Code) (R : LoopState → Option Code → Obj) : Prop :=
  ∀ {ι : Type} {τ : ι → Env} {M : ι → List HP} {Fy : ι → Prop} {x x' : Value} {L : List HP} {post : Bool → List HP → Prop},
    (∀ g F, g.rnd = some l → g.dfs = [] → G P (fun _ _ _ => False) g n [.code assign, .inv (fun a w => ∃ y, Fy y ∧ Sat g n (τ y) a ∧ Hp g (F :: obj l (R .ready none) :: M y) w)] ((p', x') :: (p, x) :: σ) (F :: obj l (R .ready none) :: L)) →
    (∀ g F y, Fy y → g.rnd = some l → g.dfs = [] → G P (rndB g F l R post) g n [.code body] (τ y) (F :: obj l (R .busy none) :: M y)) →
    Yld P l [x, x'] (obj l (R .ready none) :: L) post
end
end Go.Proofs.YtkoncepjfgnjlaaGreat
/- A cursor over trees of lists: the walks. -/
namespace Go.Proofs.YtkoncepjfgnjlaaGreat
attribute [local irreducible] sat
set_option linter.unusedVariables false
set_option linter.unusedSimpArgs false
set_option maxRecDepth 100000

theorem ArrIn.mono {L M : List HP} (f : ∀ h, sat M h → sat L h) : ∀ {t : Arr} {p : Option Addr}, ArrIn L p t → ArrIn M p t
  | .nil, _, h => h
  | .node es lo hi, _, ⟨b, A, c, pl, ph, e, h1, h2, h3, h4, h5, h6⟩ => ⟨b, A, c, pl, ph, e, h1.mono f, h2.mono f, h3, h4, h5.mono f, h6.mono f⟩
theorem RIn.mono {L M : List HP} (f : ∀ h, sat M h → sat L h) : ∀ {T : RT}, RIn L T → RIn M T
  | .nil, _ => trivial
  | .node b q a u v lo hi, ⟨h1, h2, h3, h4⟩ => ⟨h1.mono f, h2.mono f, h3.mono f, h4.mono f⟩
def rcP (a : Nat) (b : Bx) (wh : Bool) (tot : List Int) (L0 : List HP) (r k : Nat) : HP := fun h => ∃ y : Nat × List PR × List Int, RcI b tot L0 y.2.1 y.2.2 r ∧ sat [rcS a y.1 b wh y.2.2 k, stkS y.1 65536 y.2.1] h
end Go.Proofs.YtkoncepjfgnjlaaGreat
/- A cursor over trees of lists: where it begins. -/
namespace Go.Proofs.YtkoncepjfgnjlaaGreat
attribute [local irreducible] sat
set_option linter.unusedVariables false
set_option linter.unusedSimpArgs false
set_option maxRecDepth 100000

/-- A tree, as it lies in a list. -/
structure RTr where
  t : Nat
  T : RT
  A : Option Addr
  c : Nat
  l : List Pt
instance encRTr : Enc RTr := ⟨1, fun x => [.pointer (some ⟨x.t, 0, none⟩)], fun _ => rfl, fun _ v h => by simp at h; subst h; rfl⟩
def RTr.at_ (L : List HP) (x : RTr) : Prop := TR L x.t x.T x.A x.c x.l
theorem TR.mono {L M : List HP} (f : ∀ h, sat M h → sat L h) {t : Nat} {T : RT} {A : Option Addr} {c : Nat} {l : List Pt} (h : TR L t T A c l) : TR M t T A c l := ⟨h.z.mono f, h.i.mono f, h.o, h.a, h.r.mono f, h.c1, h.c2⟩
def begs (b : Bx) (ts : List RTr) : List RT := ts.map fun x => begR b x.T
end Go.Proofs.YtkoncepjfgnjlaaGreat
/- Cutting numbers out of lists in order. -/
namespace Go.Proofs.YtkoncepjfgnjlaaGreat
attribute [local irreducible] sat
set_option linter.unusedVariables false
set_option linter.unusedSimpArgs false
set_option maxRecDepth 100000

def loI (v : Int) (l : List Int) : Nat := l.countP fun x => decide (x < v)
end Go.Proofs.YtkoncepjfgnjlaaGreat
/- A cursor over trees of lists: its calls. -/
namespace Go.Proofs.YtkoncepjfgnjlaaGreat
attribute [local irreducible] sat
set_option linter.unusedVariables false
set_option linter.unusedSimpArgs false
set_option maxRecDepth 100000

/-- What is left without some numbers. -/
def lessI (l m : List Int) : List Int := m.foldl (fun o x => o.erase x) l
end Go.Proofs.YtkoncepjfgnjlaaGreat
/- Points in several trees: the trees. -/
namespace Go.Proofs.YtkoncepjfgnjlaaGreat
attribute [local irreducible] sat
open Go.RowKit
set_option linter.unusedVariables false
set_option linter.unusedSimpArgs false
set_option maxRecDepth 100000

/-- A place for a tree. -/
@[reducible] def oaddr : Option RTr → Option Addr
  | none => none
  | some x => some ⟨x.t, 0, none⟩
instance encOTr : Enc (Option RTr) := ⟨1, fun o => [.pointer (oaddr o)], fun _ => rfl, fun _ v h => by simp at h; subst h; rfl⟩
def opts : Option RTr → List Pt
  | none => []
  | some x => x.l
def oat (L : List HP) (o : Option RTr) : Prop := ∀ x, o = some x → x.at_ L
theorem oat.skip {X : HP} {L : List HP} {o : Option RTr} (h : oat L o) : oat (X :: L) o := fun x hx => (h x hx).skip
theorem zpoints_ctr (L : List HP) : Ctr Tryz.prog 56 #[.pointer none] L fun v L' => v = .slice none 0 0 ∧ L' = L := by
  refine Ctr_of (fn := Tryz.f56) (n := 9) Tryz.func56 rfl rfl rfl ?_
  intro g F
  refine GN ?_
  refine G_region ?_
  refine GQ (ev_assign rfl) ?_
  refine GO_nil ?_
  refine GN ?_
  refine G_region ?_
  refine GQ (ev_move rfl) ?_
  (first | refine GQ (ev_eqlNil rfl rfl) ?_ | refine GQ (ev_eqlPtr rfl rfl) ?_)
  refine GO_nil ?_
  refine GN ?_
  refine G_cond_t rfl rfl ?_
  refine GN ?_
  refine G_region ?_
  refine GQ (ev_assign rfl) ?_
  refine GO_nil ?_
  refine GN ?_
  refine G_ret rfl (.tmp rfl .nil) EnA ⟨rfl, rfl⟩
theorem oLen_ctr (o : Option RTr) (L : List HP) (h : oat L o) : Ctr Tryz.prog 28 #[.pointer (oaddr o)] L fun v L' => v = .int .i64 ((opts o).length : Nat) ∧ L' = L := by
  cases o with
  | none =>
    refine Ctr_of (fn := Tryz.f28) (n := 6) Tryz.func28 rfl rfl rfl ?_
    intro g F
    refine GN ?_
    refine G_region ?_
    refine GQ (ev_assign rfl) ?_
    refine GO_nil ?_
    refine GN ?_
    refine G_region ?_
    refine GQ (ev_move rfl) ?_
    refine GE (eff_call rfl (zpoints_ctr _)) ?_; rintro _ _ ⟨rfl, rfl⟩
    refine GQ (ev_len rfl) ?_
    refine GQ (ev_assign rfl) ?_
    refine GO_nil ?_
    refine GN ?_
    refine G_ret rfl (.tmp rfl .nil) EnA ⟨rfl, rfl⟩
  | some x => exact tLen_ctr (h x rfl)
/-- The trees that have points. -/
def liv (ts : List (Option RTr)) : List RTr := (ts.filterMap id).filter fun x => decide (0 < x.l.length)
theorem liv_snoc (ts : List (Option RTr)) (o : Option RTr) : liv (ts ++ [o]) = liv ts ++ (match o with | none => [] | some x => if 0 < x.l.length then [x] else []) := by
  unfold liv
  rw [List.filterMap_append, List.filter_append]
  congr 1
  cases o with
  | none => rfl
  | some x =>
    simp only [List.filterMap_cons, id, List.filterMap_nil, List.filter_cons, List.filter_nil, decide_eq_true_eq]
theorem lgtrees_ctr (s b n c : Nat) (A : Option Addr) (most built : Int) (gone : Nat) (ts : List (Option RTr)) (L : List HP) (h : LdN L s 0 5 (lsC A n c b (gone : Nat) most built)) (hr : Rd L A n ts) (ht : ∀ o ∈ ts, oat L o) (hn : n ≤ 100000) :
    Ctr Tryz.prog 50 #[.pointer (some ⟨s, 0, none⟩)] L fun v L' => Made 63 (liv ts) L v L' := by
  have h0 : Ld L ⟨s, 0 + 0, none⟩ (.slice A n c) := h.at_ (i := 0) rfl
  have hlen : ts.length = n := hr.len (by decide)
  refine Ctr_of (fn := Tryz.f50) (n := 26) Tryz.func50 rfl rfl rfl ?_
  intro g F
  refine GN ?_
  refine G_region ?_
  refine GQ (ev_assign rfl) ?_
  refine GO_nil ?_
  refine GN ?_
  refine G_region ?_
  refine GQ (ev_assign rfl) ?_
  refine GO_nil ?_
  refine GN ?_
  refine G_region ?_
  refine GQ (ev_move rfl) ?_
  (first | refine GQ (ev_eqlNil rfl rfl) ?_ | refine GQ (ev_eqlPtr rfl rfl) ?_)
  refine GO_nil ?_
  refine GN ?_
  refine G_cond_f rfl rfl ?_
  refine GN ?_
  refine G_region ?_
  refine GQ (ev_move rfl) ?_
  (first | refine GQ (ev_nilCheck rfl) ?_ | refine GQ (ev_nilCheckF (by simp) rfl) ?_)
  refine GQ (ev_fieldAddr rfl) ?_
  refine GQ (ev_load rfl LdA) ?_
  refine GQ (ev_len rfl) ?_
  refine GQ (ev_move rfl) ?_
  refine GO_nil ?_
  refine GN ?_
  refine G_heap (own.nil_ 63 1) ?_
  refine G_loop (ι := Nat × Option Addr × Nat × List RTr) (fun y => [(0, .pointer (some ⟨s, 0, none⟩)), (3, .slice y.2.1 y.2.2.2.length y.2.2.1), (11, .slice A n c), (12, .int .i64 (n : Nat)), (13, .int .i64 (y.1 : Nat))]) (fun y => own 63 1 y.2.1 y.2.2.2.length y.2.2.1 (flat y.2.2.2) :: F :: L)
    (fun y => y.1 ≤ n ∧ y.2.2.2 = liv (ts.take y.1) ∧ y.2.2.2.length ≤ y.1 ∧ (0 < y.2.2.2.length → ∃ b, y.2.1 = some ⟨b, 0, none⟩) ∧ y.2.2.2.length ≤ y.2.2.1 ∧ y.2.2.1 ≤ maxLen) (fun y => n - y.1) (0, none, 0, []) ⟨Nat.zero_le _, rfl, Nat.le_refl _, (fun h => absurd h (Nat.lt_irrefl 0)), Nat.le_refl _, Nat.zero_le _⟩ ⟨rfl, rfl, rfl, rfl, rfl, trivial⟩ EpA ?_
  rintro ⟨k, B, d, out⟩ ⟨f1, f2, f3, f4, f5, f6⟩
  simp only at f1 f2 f3 f4 f5 f6
  dsimp only
  refine GN ?_
  refine G_region ?_
  (first | refine GQ (ev_lssN rfl rfl) ?_ | refine GQ (ev_lss rfl rfl) ?_)
  refine GO_nil ?_
  refine GN ?_
  refine G_cond rfl (fun c1 => ?_) (fun c1 => ?_)
  · obtain ⟨lb, lo, rfl, hx⟩ := hr.at_ (by omega)
    have g1 : ts[k]? = some ts[k] := List.getElem?_eq_getElem (by omega)
    have y1 := (hx _ _ g1).at_ (i := 0) rfl
    have s1 : ts.take (k + 1) = ts.take k ++ [ts[k]] := List.take_succ_eq_append_getElem (by omega)
    have o1 := ht ts[k] (List.getElem_mem _)
    have s2 := liv_snoc (ts.take k) ts[k]
    rw [← s1, ← f2] at s2
    generalize ts[k] = o at *
    have z1 : Ld L ⟨lb, lo + k * 1, none⟩ (.pointer (oaddr o)) := y1
    have hL := fun M hM => oLen_ctr o M hM
    refine GN ?_
    refine G_region ?_
    (first | refine GQ (ev_indexAddrN rfl rfl NgA) ?_ | refine GQ (ev_indexAddr rfl rfl NgA NgA) ?_)
    refine GQ (ev_load rfl LdA) ?_
    refine GQ (ev_assign rfl) ?_
    refine GO_nil ?_
    refine GN ?_
    refine G_region ?_
    refine GQ (ev_move rfl) ?_
    refine GE (eff_call rfl (hL _ (by repeat' first | exact o1 | apply oat.skip))) ?_; rintro _ _ ⟨rfl, rfl⟩
    refine GQ (ev_gtr rfl rfl) ?_
    refine GO_nil ?_
    by_cases hp : 0 < (opts o).length
    · cases o with
      | none => exact absurd hp (Nat.lt_irrefl 0)
      | some x =>
        have hp : 0 < x.l.length := hp
        have s2 : liv (ts.take (k + 1)) = out ++ [x] := by rw [s2]; simp [hp]
        refine GN ?_
        refine G_cond_t rfl (decide_eq_true (by show (0 : Int) < (x.l.length : Nat); omega)) ?_
        refine GN ?_
        refine G_region ?_
        refine GQ (ev_move rfl) ?_
        refine GQ (ev_move rfl) ?_
        refine GE (eff_buildSlice1 (by rfl) rfl rfl) ?_; rintro _ _ ⟨b22, rfl, rfl⟩
        refine GE (eff_append rfl rfl PkA (by repeat' first | exact Rc.blk rfl | assumption | apply Rc.skip) (one_all rfl) (by rfl) (by decide) NgA NgA) ?_; rintro _ _ ⟨A23, c23, rfl, hc23, hm23, hn23, rfl⟩
        refine GQ (ev_assign rfl) ?_
        refine GO_nil ?_
        refine GN ?_
        refine G_region ?_
        (first | refine GQ (ev_addN (q := 1) rfl rfl NgA) ?_ | refine GQ (ev_add rfl rfl NgA) ?_)
        refine GQ (ev_move rfl) ?_
        refine GO_nil ?_
        refine GN ?_
        refine G_round (k + 1, A23, c23, out ++ [x]) ⟨by show k + 1 ≤ n; omega, s2.symm, by simp; omega, by simpa using hn23, by simpa using hc23, hm23⟩ (by show n - (k + 1) < n - k; omega) ⟨rfl, by simp only [List.length_append, List.length_singleton]; rfl, rfl, rfl, rfl, trivial⟩ ?_
        simp only [List.length_append, List.length_singleton]
        rw [← flat_snoc]
        exact EpA
    · have s3 : liv (ts.take (k + 1)) = out := by
        rw [s2]
        cases o with
        | none => simp
        | some x => simp only [opts] at hp; simp [hp]
      refine GN ?_
      refine G_cond_f rfl (decide_eq_false (by omega)) ?_
      refine GN ?_
      refine G_region ?_
      (first | refine GQ (ev_addN (q := 1) rfl rfl NgA) ?_ | refine GQ (ev_add rfl rfl NgA) ?_)
      refine GQ (ev_move rfl) ?_
      refine GO_nil ?_
      refine GN ?_
      exact G_round (k + 1, B, d, out) ⟨by show k + 1 ≤ n; omega, s3.symm, by simp only; omega, f4, f5, f6⟩ (by show n - (k + 1) < n - k; omega) ⟨rfl, rfl, rfl, rfl, rfl, trivial⟩ EpA
  · have e : k = n := by omega
    subst e
    rw [← hlen, List.take_length] at f2
    rw [← f2]
    refine GN ?_
    refine G_region ?_
    refine GQ (ev_move rfl) ?_
    refine GQ (ev_assign rfl) ?_
    refine GO_nil ?_
    refine GN ?_
    exact G_ret (L' := own 63 1 B out.length d (flat out) :: L) rfl (.tmp rfl .nil) EpA ⟨B, d, rfl, f4, rfl⟩
end Go.Proofs.YtkoncepjfgnjlaaGreat
/- Points in several trees: Count, report. -/
namespace Go.Proofs.YtkoncepjfgnjlaaGreat
attribute [local irreducible] sat
open Go.RowKit
set_option linter.unusedVariables false
set_option linter.unusedSimpArgs false
set_option maxRecDepth 100000

/-- How many lie in a box. -/
def cntB (w : Bx) (xs : List RTr) : Nat := (xs.map fun x => (idsB w x.l).length).sum
theorem cntB_take {w : Bx} {xs : List RTr} {k : Nat} (h : k < xs.length) : cntB w (xs.take (k + 1)) = cntB w (xs.take k) + (idsB w xs[k].l).length := by
  unfold cntB
  rw [List.take_succ_eq_append_getElem h]
  simp only [List.map_append, List.map_cons, List.map_nil, List.sum_append, List.sum_cons, List.sum_nil, Nat.add_zero]
theorem liv_at {ts : List (Option RTr)} {L : List HP} (h : ∀ o ∈ ts, oat L o) : ∀ x ∈ liv ts, x.at_ L := fun x hx => by
  have := (List.mem_filter.1 hx).1
  obtain ⟨o, ho, e⟩ := List.mem_filterMap.1 this
  exact h o ho x e
theorem lgCount_ctr (s b n c : Nat) (A : Option Addr) (most built : Int) (gone : Nat) (w : Bx) (ts : List (Option RTr)) (M : List (Pt × Bool)) (L : List HP) (h : LdN L s 0 5 (lsC A n c b (gone : Nat) most built)) (hr : Rd L A n ts) (ht : ∀ o ∈ ts, oat L o) (hn : n ≤ 1000) (hM : M.length ≤ 100000) (hc : ∀ o ∈ ts, (opts o).length ≤ 100000) :
    Ctr Tryz.prog 24 #[.pointer (some ⟨s, 0, none⟩), w.v] (mpH b M :: L) fun v L' => v = .int .i64 ((cntB w (liv ts) : Nat) - ((srt (ded w M)).length : Nat)) ∧ L' = mpH b M :: L := by
  have hlen : ts.length = n := hr.len (by decide)
  have hll : (liv ts).length ≤ 1000 := by
    unfold liv
    have h1 := List.length_filter_le (fun x : RTr => decide (0 < x.l.length)) (ts.filterMap id)
    have h2 := List.length_filterMap_le id ts
    omega
  have hat := liv_at ht
  have hcl : ∀ x ∈ liv ts, x.l.length ≤ 100000 := fun x hx => by
    have := (List.mem_filter.1 hx).1
    obtain ⟨o, ho, e⟩ := List.mem_filterMap.1 this
    have e : o = some x := e
    have := hc o ho
    rw [e] at this
    exact this
  have hid : ∀ x ∈ liv ts, (idsB w x.l).length ≤ 100000 := fun x hx => by
    have h1 : (idsB w x.l).length ≤ x.l.length := by unfold idsB; rw [srt, List.length_mergeSort, List.length_map]; exact List.length_filter_le ..
    have := hcl x hx
    omega
  have hdd : (srt (ded w M)).length ≤ 100000 := by
    rw [srt, List.length_mergeSort]; unfold ded; rw [List.length_map]
    exact Nat.le_trans (List.length_filter_le ..) hM
  have htr := fun X h1 h2 h3 => lgtrees_ctr s b n c A most built gone ts X h1 h2 h3 (by omega)
  have hlo := fun X h1 => lgLost_ctr s b n c A most built gone w M X h1 hM
  generalize liv ts = xs at *
  generalize srt (ded w M) = dd at *
  refine Ctr_of (fn := Tryz.f24) (n := 27) Tryz.func24 rfl rfl rfl ?_
  intro g F
  refine GN ?_
  refine G_region ?_
  refine GE (eff_box rfl) ?_; rintro _ _ ⟨b3, rfl, rfl⟩
  refine GQ (ev_assign rfl) ?_
  refine GO_nil ?_
  refine GN ?_
  refine G_region ?_
  refine GQ (ev_assign rfl) ?_
  refine GO_nil ?_
  refine GN ?_
  refine G_region ?_
  refine GQ (ev_move rfl) ?_
  refine GE (eff_call rfl (htr _ (by repeat' first | exact h | apply LdN.skip) (by repeat' first | exact hr | apply Rd.skip) (fun o ho => by repeat' first | exact ht o ho | apply oat.skip))) ?_; rintro _ _ ⟨A2, c2, rfl, hA2, rfl⟩
  refine GQ (ev_len rfl) ?_
  refine GQ (ev_move rfl) ?_
  refine GO_nil ?_
  refine GN ?_
  refine G_heap (L' := mpH b M :: own 63 1 A2 xs.length c2 (flat xs) :: blk b3 35 [.int .i64 w.x1, .int .i64 w.x2, .int .i64 w.y1, .int .i64 w.y2] :: F :: L) EpA ?_
  have hnx : ∀ X, Rd (own 63 1 A2 xs.length c2 (flat xs) :: X) A2 xs.length xs := fun X => Rc.own (flat_length _) hA2
  refine G_loop (ι := Nat) (fun k => [(0, .pointer (some ⟨s, 0, none⟩)), (3, .pointer (some ⟨b3, 0, none⟩)), (5, .int .i64 (cntB w (xs.take k) : Nat)), (9, .slice A2 xs.length c2), (10, .int .i64 (xs.length : Nat)), (11, .int .i64 (k : Nat))]) (fun _ => mpH b M :: own 63 1 A2 xs.length c2 (flat xs) :: blk b3 35 [.int .i64 w.x1, .int .i64 w.x2, .int .i64 w.y1, .int .i64 w.y2] :: F :: L) (fun k => k ≤ xs.length ∧ cntB w (xs.take k) ≤ k * 100000) (fun k => xs.length - k) 0 ⟨Nat.zero_le _, Nat.zero_le _⟩ ⟨rfl, rfl, rfl, rfl, rfl, rfl, trivial⟩ EnA ?_
  rintro k ⟨f1, f2⟩
  refine GN ?_
  refine G_region ?_
  (first | refine GQ (ev_lssN rfl rfl) ?_ | refine GQ (ev_lss rfl rfl) ?_)
  refine GO_nil ?_
  refine GN ?_
  refine G_cond rfl (fun c1 => ?_) (fun c1 => ?_)
  · obtain ⟨lb, lo, rfl, hx⟩ := (hnx []).at_ (by omega)
    have g1 : xs[k]? = some xs[k] := List.getElem?_eq_getElem (by omega)
    obtain ⟨ab, e9⟩ := hA2 (by omega)
    cases e9
    have z1 : ∀ X, Ld (own 63 1 (some ⟨lb, 0, none⟩) xs.length c2 (flat xs) :: X) ⟨lb, 0 + k * 1, none⟩ (.pointer (some ⟨xs[k].t, 0, none⟩)) := fun X => by
      obtain ⟨_, _, e9, hx⟩ := (hnx X).at_ (by omega)
      cases e9
      exact (hx _ _ g1).at_ (i := 0) rfl
    have s1 := cntB_take (w := w) (xs := xs) (k := k) (by omega)
    have m1 := hat xs[k] (List.getElem_mem _)
    have m2 := hcl xs[k] (List.getElem_mem _)
    have m3 := hid xs[k] (List.getElem_mem _)
    have hcn : ∀ X, RTr.at_ X xs[k] → _ := fun X hX => tCount_ctr hX w m2
    have hsk : RTr.at_ (mpH b M :: own 63 1 (some ⟨lb, 0, none⟩) xs.length c2 (flat xs) :: blk b3 35 [.int .i64 w.x1, .int .i64 w.x2, .int .i64 w.y1, .int .i64 w.y2] :: F :: L) xs[k] := TR.skip (TR.skip (TR.skip (TR.skip m1)))
    generalize xs[k] = x at *
    refine GN ?_
    refine G_region ?_
    refine GQ (ev_indexAddrN rfl rfl (by omega)) ?_
    refine GQ (ev_load rfl (by repeat' first | exact z1 _ | apply Ld.skip)) ?_
    refine GQ (ev_assign rfl) ?_
    refine GO_nil ?_
    refine GN ?_
    refine G_region ?_
    refine GQ (ev_move rfl) ?_
    refine GQ (ev_move rfl) ?_
    refine GQ (ev_loadN rfl LnA) ?_
    refine GE (eff_call rfl (hcn _ hsk)) ?_; rintro _ _ ⟨rfl, rfl⟩
    (first | refine GQ (ev_addN rfl rfl NgA) ?_ | refine GQ (ev_add rfl rfl NgA) ?_)
    refine GQ (ev_assign rfl) ?_
    refine GO_nil ?_
    refine GN ?_
    refine G_region ?_
    (first | refine GQ (ev_addN (q := 1) rfl rfl NgA) ?_ | refine GQ (ev_add rfl rfl NgA) ?_)
    refine GQ (ev_move rfl) ?_
    refine GO_nil ?_
    refine GN ?_
    refine G_round (k + 1) ⟨by omega, by rw [s1]; omega⟩ (by omega) ⟨rfl, rfl, by rw [s1]; rfl, rfl, rfl, rfl, trivial⟩ EnA
  · have ek : xs.take k = xs := List.take_of_length_le (by omega)
    rw [ek] at f2 ⊢
    refine GN ?_
    refine G_region ?_
    refine GQ (ev_move rfl) ?_
    refine GQ (ev_move rfl) ?_
    refine GQ (ev_loadN rfl LnA) ?_
    refine GE (eff_call rfl (Ctr.pick PkA (hlo _ (by repeat' first | exact h | apply LdN.skip)))) ?_; rintro _ _ ⟨A9, c9, rfl, hA9, rfl⟩
    refine GQ (ev_len rfl) ?_
    (first | refine GQ (ev_subN rfl rfl NgA) ?_ | refine GQ (ev_sub rfl rfl NgA) ?_)
    refine GQ (ev_assign rfl) ?_
    refine GO_nil ?_
    refine GN ?_
    exact G_ret (L' := mpH b M :: L) rfl (.tmp rfl .nil) EpA ⟨rfl, rfl⟩
end Go.Proofs.YtkoncepjfgnjlaaGreat
/- Points in several trees: report. -/
namespace Go.Proofs.YtkoncepjfgnjlaaGreat
attribute [local irreducible] sat
open Go.RowKit
set_option linter.unusedVariables false
set_option linter.unusedSimpArgs false
set_option maxRecDepth 100000

end Go.Proofs.YtkoncepjfgnjlaaGreat
/- Points in several trees: put (under way). -/
namespace Go.Proofs.YtkoncepjfgnjlaaGreat
attribute [local irreducible] sat
open Go.RowKit
set_option linter.unusedVariables false
set_option linter.unusedSimpArgs false
set_option maxRecDepth 100000

/-- What has been gathered of the first trees. -/
def gth (p : Pt) (ts : List (Option RTr)) : List Pt := srtO Pt.less (p :: ts.flatMap opts)
theorem gth_nil (p : Pt) : gth p [] = [p] := by simp [gth, srtO]
theorem gth_srt (p : Pt) (ts : List (Option RTr)) : SrtO Pt.less (gth p ts) := srtO_sorted sto_less _
theorem gth_snoc (p : Pt) (ts : List (Option RTr)) (o : Option RTr) (h : SrtO Pt.less (opts o)) : gth p (ts ++ [o]) = srtO Pt.less (gth p ts ++ opts o) := by
  have e : opts o = srtO Pt.less (opts o) := srtO_eq sto_less h (.refl _)
  unfold gth
  conv => rhs; rw [e]
  rw [srtO_append sto_less]
  simp
theorem gth_len (p : Pt) (ts : List (Option RTr)) : (gth p ts).length = (ts.flatMap opts).length + 1 := by unfold gth; rw [srtO_length, List.length_cons]
theorem flat_setO (u : Option RTr) : ∀ (l : List (Option RTr)) (i : Nat), (flat l : List Value).set i (.pointer (oaddr u)) = flat (l.set i u)
  | [], _ => rfl
  | x :: l, 0 => rfl
  | x :: l, i + 1 => by
    have := flat_setO u l i
    rw [List.set_cons_succ, flat_cons, flat_cons]
    show Value.pointer (oaddr x) :: (flat l).set i _ = _
    rw [this]; rfl
theorem opts_srt {L : List HP} {o : Option RTr} (h : oat L o) : SrtO Pt.less (opts o) := by
  cases o with
  | none => exact .nil
  | some x =>
    exact (h x rfl).a.srt sto_less
/-- A new tree, the list's part and all that was made for it being one part. -/
theorem RNewP_ctr (Y : HP) (A : Option Addr) (n c : Nat) (l : List Pt) (L : List HP) (hl : ∀ X, Rd (Y :: X) A n l) (hn : n ≤ 100000) (hc : n ≤ c) (h0 : newC l = 0) :
    Ctr Tryz.prog 65 #[.slice A n c] (Y :: L) fun v L' => ∃ (x : RTr) (N : List HP), v = .tuple #[.pointer (some ⟨x.t, 0, none⟩), .int .i64 0] ∧ (x.l = srtO Pt.less l ∧ TR N x.t x.T x.A x.c x.l) ∧ L' = pk N :: L := by
  have h1 := RNew_ctr A n c l [Y] (hl []) hn hc h0
  refine (Ctr.frame L h1 (fun h s => s.perm (List.perm_append_comm (l₁ := [Y]) (l₂ := L)))).post' ?_
  rintro v L' hm ⟨L1, ⟨t, T, A', c', N, rfl, rfl, hT⟩, rfl⟩ s
  exact ⟨_, ⟨⟨t, T, A', c', srtO Pt.less l⟩, N ++ [Y], rfl, ⟨rfl, hT⟩, rfl⟩, sat.join (s.perm (List.perm_append_comm (l₁ := L) (l₂ := N ++ [Y])))⟩
/-- What put leaves of the trees. -/
structure PutT (p : Pt) (ts : List (Option RTr)) (k : Nat) (x : RTr) (N : List HP) : Prop where
  le : k ≤ ts.length
  full : ∀ j o, j < k → ts[j]? = some o → 0 < (opts o).length
  end_ : k = ts.length ∨ ∃ o, ts[k]? = some o ∧ opts o = []
  l : x.l = gth p (ts.take k)
  t : TR N x.t x.T x.A x.c x.l
def putT (ts : List (Option RTr)) (k : Nat) (x : RTr) : List (Option RTr) := List.replicate k none ++ some x :: ts.drop (k + 1)
theorem putT_len {ts : List (Option RTr)} {k : Nat} {x : RTr} : (putT ts k x).length = k + 1 + (ts.length - (k + 1)) := by simp [putT]; omega
theorem gth_srtd (p : Pt) (ts : List (Option RTr)) : srtO Pt.less (gth p ts) = gth p ts := (srtO_eq sto_less (gth_srt p ts) (.refl _)).symm
theorem lgput_ctr (s b n c : Nat) (A : Option Addr) (most built : Int) (gone : Nat) (p : Pt) (ts : List (Option RTr)) (M : List (Pt × Bool)) (L : List HP) (hA : 0 < n → ∃ b, A = some ⟨b, 0, none⟩) (hlen : ts.length = n) (ht : ∀ o ∈ ts, oat L o) (hn : n ≤ 60) (hsz : (ts.flatMap opts).length ≤ 50000) (hcap : n ≤ c) (hcap2 : c ≤ maxLen) (hnw : ∀ k, newC (gth p (ts.take k)) = 0) (hbt : 0 ≤ built ∧ built ≤ 1000000000000) :
    Ctr Tryz.prog 37 #[.pointer (some ⟨s, 0, none⟩), p.v] (blk s 69 (lsC A n c b (gone : Nat) most built) :: mpH b M :: own 63 1 A n c (flat ts) :: L) fun v L' => ∃ (A' : Option Addr) (c' k : Nat) (x : RTr) (N : List HP), v = .tuple #[] ∧ PutT p ts k x N ∧ (∃ b, A' = some ⟨b, 0, none⟩) ∧ L' = blk s 69 (lsC A' (putT ts k x).length c' b (gone : Nat) most (built + x.l.length)) :: mpH b (putM p false M) :: own 63 1 A' (putT ts k x).length c' (flat (putT ts k x)) :: pk N :: L := by
  refine Ctr_of (fn := Tryz.f37) (n := 85) Tryz.func37 rfl rfl rfl ?_
  intro g F
  refine GN ?_
  refine G_region ?_
  refine GE (eff_box rfl) ?_; rintro _ _ ⟨b3, rfl, rfl⟩
  refine GO_nil ?_
  refine GN ?_
  refine G_region ?_
  refine GQ (ev_loadN rfl LnA) ?_
  refine GE (eff_buildSlice1 (by rfl) rfl rfl) ?_; rintro _ _ ⟨b7, rfl, rfl⟩
  refine GQ (ev_assign rfl) ?_
  refine GO_nil ?_
  refine GN ?_
  refine G_region ?_
  refine GQ (ev_assign rfl) ?_
  refine GO_nil ?_
  (repeat first | refine G_seq ?_ | refine G_skip ?_ | refine G_endblk ?_)
  refine G_cut (ι := Nat × HP × Option Addr × Nat) (fun y => [(0, .pointer (some ⟨s, 0, none⟩)), (3, .pointer (some ⟨b3, 0, none⟩)), (4, .slice y.2.2.1 (gth p (ts.take y.1)).length y.2.2.2), (5, .int .i64 (y.1 : Nat))]) (fun y => blk s 69 (lsC A n c b (gone : Nat) most built) :: mpH b M :: own 63 1 A n c (flat (List.replicate y.1 none ++ ts.drop y.1)) :: y.2.1 :: blk b3 28 [.int .i64 p.id, .int .i64 p.x, .int .i64 p.y] :: F :: L)
    (fun y => (y.1 ≤ n ∧ (gth p (ts.take y.1)).length ≤ y.2.2.2 ∧ y.2.2.2 ≤ maxLen ∧ (∀ X, Rd (y.2.1 :: X) y.2.2.1 (gth p (ts.take y.1)).length (gth p (ts.take y.1))) ∧ ∀ j o, j < y.1 → ts[j]? = some o → 0 < (opts o).length) ∧ (y.1 = n ∨ ∃ o, ts[y.1]? = some o ∧ opts o = [])) ?_ ?_
  · refine GN ?_
    refine G_loop (ι := Nat × HP × Option Addr × Nat) (fun y => [(0, .pointer (some ⟨s, 0, none⟩)), (3, .pointer (some ⟨b3, 0, none⟩)), (4, .slice y.2.2.1 (gth p (ts.take y.1)).length y.2.2.2), (5, .int .i64 (y.1 : Nat))]) (fun y => blk s 69 (lsC A n c b (gone : Nat) most built) :: mpH b M :: own 63 1 A n c (flat (List.replicate y.1 none ++ ts.drop y.1)) :: y.2.1 :: blk b3 28 [.int .i64 p.id, .int .i64 p.x, .int .i64 p.y] :: F :: L)
      (fun y => y.1 ≤ n ∧ (gth p (ts.take y.1)).length ≤ y.2.2.2 ∧ y.2.2.2 ≤ maxLen ∧ (∀ X, Rd (y.2.1 :: X) y.2.2.1 (gth p (ts.take y.1)).length (gth p (ts.take y.1))) ∧ ∀ j o, j < y.1 → ts[j]? = some o → 0 < (opts o).length) (fun y => n - y.1) (0, blk b7 28 [.int .i64 p.id, .int .i64 p.x, .int .i64 p.y], some ⟨b7, 0, none⟩, 1) ⟨Nat.zero_le _, by simp [gth, srtO], by show 1 ≤ maxLen; decide, fun X => by
        show Rd _ _ (gth p (ts.take 0)).length (gth p (ts.take 0))
        rw [List.take_zero, gth_nil]; exact Rc.blk rfl, fun j o h => absurd h (Nat.not_lt_zero _)⟩ ⟨rfl, rfl, by simp only [List.take_zero, gth_nil]; rfl, rfl, trivial⟩ EpA ?_
    rintro ⟨k, Y, B, d⟩ ⟨f1, f2, f3, f4, f5⟩
    simp only at f1 f2 f3 f4 f5
    dsimp only
    have hpl : (List.replicate k none ++ ts.drop k : List (Option RTr)).length = n := by simp; omega
    by_cases c1 : k < n
    · have g1 : ts[k]? = some ts[k] := List.getElem?_eq_getElem (by omega)
      have s1 : ts.take (k + 1) = ts.take k ++ [ts[k]] := List.take_succ_eq_append_getElem (by omega)
      have d1 : ts.drop k = ts[k] :: ts.drop (k + 1) := (List.getElem_cons_drop (by omega)).symm
      have o1 := ht ts[k] (List.getElem_mem _)
      have hsz2 : (opts ts[k]).length + ((ts.take k).flatMap opts).length ≤ (ts.flatMap opts).length := by
        conv => rhs; rw [← List.take_append_drop k ts, d1]
        rw [List.flatMap_append, List.length_append, List.flatMap_cons, List.length_append]; omega
      obtain ⟨ab, rfl⟩ := hA (by omega)
      have f6 : 0 < (opts ts[k]).length → ∀ j o, j < k + 1 → ts[j]? = some o → 0 < (opts o).length := fun h0 j o hj ho => by
        rcases Nat.lt_or_ge j k with h | h
        · exact f5 j o h ho
        · have : j = k := by omega
          subst this
          rw [g1] at ho; cases ho; exact h0
      generalize ts[k] = o at *
      rw [d1] at hpl ⊢
      have gk : (List.replicate k none ++ o :: ts.drop (k + 1) : List (Option RTr))[k]? = some o := by
        rw [List.getElem?_append_right (by simp)]; simp
      have z1 : ∀ X, Ld (own 63 1 (some ⟨ab, 0, none⟩) n c (flat (List.replicate k none ++ o :: ts.drop (k + 1))) :: X) ⟨ab, 0 + k * 1, none⟩ (.pointer (oaddr o)) := fun X => by
        have hr : Rd (own 63 1 (some ⟨ab, 0, none⟩) n c (flat (List.replicate k none ++ o :: ts.drop (k + 1))) :: X) (some ⟨ab, 0, none⟩) n (List.replicate k none ++ o :: ts.drop (k + 1)) := Rc.own (by rw [flat_length, hpl]; rfl) (fun _ => ⟨ab, rfl⟩)
        obtain ⟨_, _, e9, hx⟩ := hr.at_ (by omega)
        cases e9
        exact (hx _ _ gk).at_ (i := 0) rfl
      have hL := fun X hX => oLen_ctr o X hX
      refine GN ?_
      refine G_region ?_
      refine GQ (ev_move rfl) ?_
      refine GQ (ev_move rfl) ?_
      (first | refine GQ (ev_nilCheck rfl) ?_ | refine GQ (ev_nilCheckF (by simp) rfl) ?_)
      refine GQ (ev_fieldAddr rfl) ?_
      refine GQ (ev_load rfl LdA) ?_
      refine GQ (ev_len rfl) ?_
      (first | refine GQ (ev_lssN rfl rfl) ?_ | refine GQ (ev_lss rfl rfl) ?_)
      refine GQ (ev_move rfl) ?_
      refine GO_yes rfl rfl rfl (decide_eq_true (by omega)) ?_
      refine GQ (ev_move rfl) ?_
      refine GO_yes rfl rfl rfl (decide_eq_true (by omega)) ?_
      (first | refine GQ (ev_nilCheck rfl) ?_ | refine GQ (ev_nilCheckF (by simp) rfl) ?_)
      refine GO_yes rfl rfl rfl (decide_eq_true (by omega)) ?_
      refine GQ (ev_fieldAddr rfl) ?_
      refine GO_yes rfl rfl rfl (decide_eq_true (by omega)) ?_
      refine GQ (ev_load rfl LdA) ?_
      refine GO_yes rfl rfl rfl (decide_eq_true (by omega)) ?_
      refine GQ (ev_move rfl) ?_
      refine GO_yes rfl rfl rfl (decide_eq_true (by omega)) ?_
      (first | refine GQ (ev_indexAddrN rfl rfl NgA) ?_ | refine GQ (ev_indexAddr rfl rfl NgA NgA) ?_)
      refine GO_yes rfl rfl rfl (decide_eq_true (by omega)) ?_
      refine GQ (ev_load rfl (by repeat' first | exact z1 _ | apply Ld.skip)) ?_
      refine GO_yes rfl rfl rfl (decide_eq_true (by omega)) ?_
      refine GE (eff_call rfl (hL _ (by repeat' first | exact o1 | apply oat.skip))) ?_; rintro _ _ ⟨rfl, rfl⟩
      refine GO_yes rfl rfl rfl (decide_eq_true (by omega)) ?_
      refine GQ (ev_gtr rfl rfl) ?_
      refine GQ (ev_pick_t rfl (decide_eq_true (by omega)) rfl) ?_
      refine GO_nil ?_
      by_cases hp : 0 < (opts o).length
      · cases o with
        | none => exact absurd hp (Nat.lt_irrefl 0)
        | some x =>
          replace f6 := f6 hp
          have x1 : TR L x.t x.T x.A x.c x.l := o1 x rfl
          have hxl : x.l.length ≤ 50000 := by simp only [opts] at hsz2; omega
          have hgl := gth_len p (ts.take k)
          have hpts := fun X (hX : TR X x.t x.T x.A x.c x.l) => (tPoints_ctr hX (by omega)).made
          have hmg := fun X Bp cp h1 h2 h3 => (MergeO_ctr sto_less less_ls B Bp (gth p (ts.take k)).length x.l.length d cp (gth p (ts.take k)) x.l X h1 h2 (by omega) (by omega) f2 h3 (gth_srt p _) (opts_srt o1)).made
          have eg : srtO Pt.less (gth p (ts.take k) ++ x.l) = gth p (ts.take (k + 1)) := by rw [s1]; exact (gth_snoc p _ (some x) (opts_srt o1)).symm
          rw [eg] at hmg
          refine GN ?_
          refine G_cond_t rfl (decide_eq_true (by omega)) ?_
          refine GN ?_
          refine G_region ?_
          refine GQ (ev_move rfl) ?_
          refine GQ (ev_move rfl) ?_
          (first | refine GQ (ev_nilCheck rfl) ?_ | refine GQ (ev_nilCheckF (by simp) rfl) ?_)
          refine GQ (ev_fieldAddr rfl) ?_
          refine GQ (ev_load rfl LdA) ?_
          refine GQ (ev_move rfl) ?_
          (first | refine GQ (ev_indexAddrN rfl rfl NgA) ?_ | refine GQ (ev_indexAddr rfl rfl NgA NgA) ?_)
          refine GQ (ev_load rfl (by repeat' first | exact z1 _ | apply Ld.skip)) ?_
          refine GE (eff_call rfl (hpts _ (by repeat' first | exact x1 | apply TR.skip))) ?_; rintro _ _ ⟨Bp, cp, rfl, hBp, hcp, hcp2, rfl⟩
          refine GE (eff_call rfl (hmg _ Bp cp (by repeat' first | exact f4 _ | apply Rd.skip) (by repeat' first | exact Rc.own (flat_length _) hBp | apply Rd.skip) hcp)) ?_; rintro _ _ ⟨B2, d2, rfl, hB2, hd2, hd3, rfl⟩
          refine GQ (ev_assign rfl) ?_
          refine GO_nil ?_
          refine GN ?_
          refine G_region ?_
          refine GQ (ev_move rfl) ?_
          (first | refine GQ (ev_nilCheck rfl) ?_ | refine GQ (ev_nilCheckF (by simp) rfl) ?_)
          refine GQ (ev_fieldAddr rfl) ?_
          refine GQ (ev_load rfl LdA) ?_
          refine GQ (ev_move rfl) ?_
          (first | refine GQ (ev_indexAddrN rfl rfl NgA) ?_ | refine GQ (ev_indexAddr rfl rfl NgA NgA) ?_)
          refine GE (eff_storeO rfl rfl rfl PkA (by omega)) ?_; rintro _ _ ⟨rfl, rfl⟩
          refine GO_nil ?_
          refine GN ?_
          refine G_region ?_
          refine GQ (ev_move rfl) ?_
          (first | refine GQ (ev_addN (q := 1) rfl rfl NgA) ?_ | refine GQ (ev_add rfl rfl NgA) ?_)
          refine GQ (ev_assign rfl) ?_
          refine GO_nil ?_
          refine GN ?_
          have es : (flat (List.replicate k none ++ some x :: ts.drop (k + 1)) : List Value).set (0 + k * 1) (.pointer none) = flat (List.replicate (k + 1) none ++ ts.drop (k + 1)) := by
            rw [show 0 + k * 1 = k by omega]
            refine (flat_setO none _ k).trans ?_
            congr 1
            rw [List.set_append_right _ _ (by simp), List.replicate_succ']
            simp
          rw [es]
          exact G_round (k + 1, own 28 3 B2 (gth p (ts.take (k + 1))).length d2 (flat (gth p (ts.take (k + 1)))), B2, d2) ⟨by show k + 1 ≤ n; omega, hd2, hd3, fun X => Rc.own (flat_length _) hB2, f6⟩ (by show n - (k + 1) < n - k; omega) ⟨rfl, rfl, rfl, rfl, trivial⟩ EpA
      · refine GN ?_
        refine G_cond_f rfl (decide_eq_false (by omega)) ?_
        refine GN ?_
        rw [← d1]
        exact G_inv (k, Y, B, d) ⟨⟨f1, f2, f3, f4, f5⟩, .inr ⟨o, g1, List.eq_nil_of_length_eq_zero (by omega)⟩⟩ ⟨rfl, rfl, rfl, rfl, trivial⟩ EnA
    · have e : k = n := by omega
      subst e
      refine GN ?_
      refine G_region ?_
      refine GQ (ev_move rfl) ?_
      refine GQ (ev_move rfl) ?_
      (first | refine GQ (ev_nilCheck rfl) ?_ | refine GQ (ev_nilCheckF (by simp) rfl) ?_)
      refine GQ (ev_fieldAddr rfl) ?_
      refine GQ (ev_load rfl LdA) ?_
      refine GQ (ev_len rfl) ?_
      (first | refine GQ (ev_lssN rfl rfl) ?_ | refine GQ (ev_lss rfl rfl) ?_)
      refine GQ (ev_move rfl) ?_
      refine GO_no rfl rfl rfl (decide_eq_false (by omega)) ?_
      refine GO_no rfl rfl rfl (decide_eq_false (by omega)) ?_
      refine GO_no rfl rfl rfl (decide_eq_false (by omega)) ?_
      refine GO_no rfl rfl rfl (decide_eq_false (by omega)) ?_
      refine GO_no rfl rfl rfl (decide_eq_false (by omega)) ?_
      refine GO_no rfl rfl rfl (decide_eq_false (by omega)) ?_
      refine GO_no rfl rfl rfl (decide_eq_false (by omega)) ?_
      refine GO_no rfl rfl rfl (decide_eq_false (by omega)) ?_
      refine GO_no rfl rfl rfl (decide_eq_false (by omega)) ?_
      refine GQ (ev_pick_f rfl (decide_eq_false (by omega)) rfl) ?_
      refine GO_nil ?_
      refine GN ?_
      refine G_cond_f rfl rfl ?_
      refine GN ?_
      exact G_inv (k, Y, B, d) ⟨⟨f1, f2, f3, f4, f5⟩, .inl rfl⟩ ⟨rfl, rfl, rfl, rfl, trivial⟩ EnA
  · rintro ⟨k, Y, B, d⟩ ⟨⟨f1, f2, f3, f4, f5⟩, hend⟩
    simp only at f1 f2 f3 f4 f5 hend
    dsimp only
    have hgl := gth_len p (ts.take k)
    have hgs : ((ts.take k).flatMap opts).length ≤ (ts.flatMap opts).length := by
      conv => rhs; rw [← List.take_append_drop k ts]
      rw [List.flatMap_append, List.length_append]; omega
    have hnew := fun X => RNewP_ctr Y B (gth p (ts.take k)).length d (gth p (ts.take k)) X f4 (by omega) f2 (hnw k)
    rw [gth_srtd] at hnew
    have hpt : ∀ x N, x.l = gth p (ts.take k) → TR N x.t x.T x.A x.c x.l → PutT p ts k x N := fun x N h1 h2 => ⟨by omega, f5, hlen ▸ hend, h1, h2⟩
    have hxl : ∀ x : RTr, x.l = gth p (ts.take k) → x.l.length = (gth p (ts.take k)).length := fun x h => by rw [h]
    generalize gth p (ts.take k) = all at *
    by_cases c1 : k = n
    · subst c1
      have e0 : ts.drop k = [] := List.drop_eq_nil_of_le (by omega)
      have e1 : ts.drop (k + 1) = [] := List.drop_eq_nil_of_le (by omega)
      rw [e0, List.append_nil]
      refine GN ?_
      refine G_region ?_
      refine GQ (ev_move rfl) ?_
      refine GQ (ev_move rfl) ?_
      (first | refine GQ (ev_nilCheck rfl) ?_ | refine GQ (ev_nilCheckF (by simp) rfl) ?_)
      refine GQ (ev_fieldAddr rfl) ?_
      refine GQ (ev_load rfl LdA) ?_
      refine GQ (ev_len rfl) ?_
      refine GQ (ev_eql rfl rfl) ?_
      refine GO_nil ?_
      refine GN ?_
      refine G_cond_t rfl (decide_eq_true (by omega)) ?_
      refine GN ?_
      refine G_region ?_
      refine GQ (ev_move rfl) ?_
      refine GQ (ev_move rfl) ?_
      (first | refine GQ (ev_nilCheck rfl) ?_ | refine GQ (ev_nilCheckF (by simp) rfl) ?_)
      refine GQ (ev_fieldAddr rfl) ?_
      refine GQ (ev_load rfl LdA) ?_
      refine GE (eff_buildSlice1 (by rfl) rfl rfl) ?_; rintro _ _ ⟨b56, rfl, rfl⟩
      refine GE (eff_append rfl rfl PkA (by repeat' first | exact Rc.blk rfl | assumption | apply Rc.skip) (one_all rfl) (by rfl) (by decide) NgA NgA) ?_; rintro _ _ ⟨A57, c57, rfl, hc57, hm57, hn57, rfl⟩
      (first | refine GQ (ev_nilCheck rfl) ?_ | refine GQ (ev_nilCheckF (by simp) rfl) ?_)
      refine GQ (ev_fieldAddr rfl) ?_
      refine GE (eff_store rfl rfl rfl UpA) ?_; rintro _ _ ⟨rfl, rfl⟩
      refine GO_nil ?_
      obtain ⟨ab, rfl⟩ := hn57 (by omega)
      refine G_heap (L' := blk s 69 (lsC (some ⟨ab, 0, none⟩) (k + 1) c57 b (gone : Nat) most built) :: mpH b M :: own 63 1 (some ⟨ab, 0, none⟩) (k + 1) c57 (flat (List.replicate k none ++ [none] : List (Option RTr))) :: Y :: blk b3 28 [.int .i64 p.id, .int .i64 p.x, .int .i64 p.y] :: F :: L) (by rw [flat_append]; exact EpA) ?_
      refine GN ?_
      refine G_drawE 3 (.q 0 (.q 1 (.q 2 (.q 3 (.q 4 (.q 5 (.e 6 (.q 7 (.q 8 (.q 9 (.q 10 (.e 11 .nil)))))))))))) (by kernel_rfl) (by kernel_rfl) ?_
      refine RM rfl (ev_move rfl) ?_
      (first | refine RM rfl (ev_nilCheck rfl) ?_ | refine RM rfl (ev_nilCheckF (by simp) rfl) ?_)
      refine RM rfl (ev_fieldAddr rfl) ?_
      refine RQ rfl (ev_load rfl LdA) ?_
      refine RM rfl (ev_move rfl) ?_
      refine RM rfl (ev_move rfl) ?_
      refine RS_e (RE_eff rfl rfl rfl (eff_call rfl (Ctr.pick PkA (hnew _))) ?_); rintro _ _ ⟨x, N, rfl, ⟨hx, hT⟩, rfl⟩; refine ⟨_, ExA, fun _ s => s, ?_⟩
      refine RM rfl (ev_move rfl) ?_
      refine RM rfl (ev_extract rfl rfl) ?_
      refine RM rfl (ev_extract rfl rfl) ?_
      (first | refine RM rfl (ev_indexAddrN rfl rfl NgA) ?_ | refine RM rfl (ev_indexAddr rfl rfl NgA NgA) ?_)
      refine RS_e (RE_last (by kernel_rfl) rfl rfl rfl (eff_storeO rfl rfl rfl PkA (by omega)) ?_); rintro _ _ ⟨rfl, rfl⟩
      have hl9 := hxl x hx
      have hts : (flat (List.replicate k none ++ [none] : List (Option RTr)) : List Value).set (0 + k * 1) (.pointer (some ⟨x.t, 0, none⟩)) = flat (putT ts k x) := by
        rw [show 0 + k * 1 = k by omega]
        refine (flat_setO (some x) _ k).trans ?_
        congr 1
        unfold putT
        rw [e1, List.set_append_right _ _ (by simp)]; simp
      have hpl : (putT ts k x).length = k + 1 := by rw [putT_len]; omega
      rw [hts]
      refine G_heap (L' := blk s 69 (lsC (some ⟨ab, 0, none⟩) (k + 1) c57 b (gone : Nat) most built) :: mpH b M :: own 63 1 (some ⟨ab, 0, none⟩) (k + 1) c57 (flat (putT ts k x)) :: pk N :: blk b3 28 [.int .i64 p.id, .int .i64 p.x, .int .i64 p.y] :: F :: L) EpA ?_
      refine GN ?_
      refine G_draw (.q 0 (.q 1 (.q 2 (.q 3 (.q 4 (.e 5 .nil)))))) (by kernel_rfl) (by kernel_rfl) ?_
      refine RM rfl (ev_move rfl) ?_
      (first | refine RM rfl (ev_nilCheck rfl) ?_ | refine RM rfl (ev_nilCheckF (by simp) rfl) ?_)
      refine RM rfl (ev_fieldAddr rfl) ?_
      refine RQ rfl (ev_load rfl LdA) ?_
      refine RQ rfl (ev_loadN rfl LnA) ?_
      refine RS_e (RE_last (by kernel_rfl) rfl rfl rfl (eff_mapUpdate rfl rfl rfl PkA) ?_); rintro _ _ ⟨rfl, rfl⟩
      refine GN ?_
      refine G_region ?_
      refine GQ (ev_move rfl) ?_
      (first | refine GQ (ev_nilCheck rfl) ?_ | refine GQ (ev_nilCheckF (by simp) rfl) ?_)
      refine GQ (ev_fieldAddr rfl) ?_
      refine GQ (ev_load rfl LdA) ?_
      refine GQ (ev_move rfl) ?_
      refine GQ (ev_len rfl) ?_
      (first | refine GQ (ev_addN rfl rfl NgA) ?_ | refine GQ (ev_add rfl rfl NgA) ?_)
      (first | refine GQ (ev_nilCheck rfl) ?_ | refine GQ (ev_nilCheckF (by simp) rfl) ?_)
      refine GQ (ev_fieldAddr rfl) ?_
      refine GE (eff_store rfl rfl rfl UpA) ?_; rintro _ _ ⟨rfl, rfl⟩
      refine GO_nil ?_
      refine GN ?_
      exact G_end (rs := []) (vs := []) (L' := blk s 69 (lsC (some ⟨ab, 0, none⟩) (k + 1) c57 b (gone : Nat) most (built + (all.length : Nat))) :: mpH b (putM p false M) :: own 63 1 (some ⟨ab, 0, none⟩) (k + 1) c57 (flat (putT ts k x)) :: pk N :: L) rfl .nil EpA ⟨some ⟨ab, 0, none⟩, c57, k, x, N, rfl, hpt x N hx hT, ⟨ab, rfl⟩, by rw [hpl, hl9]⟩
    · obtain ⟨ab, rfl⟩ := hA (by omega)
      refine GN ?_
      refine G_region ?_
      refine GQ (ev_move rfl) ?_
      refine GQ (ev_move rfl) ?_
      (first | refine GQ (ev_nilCheck rfl) ?_ | refine GQ (ev_nilCheckF (by simp) rfl) ?_)
      refine GQ (ev_fieldAddr rfl) ?_
      refine GQ (ev_load rfl LdA) ?_
      refine GQ (ev_len rfl) ?_
      refine GQ (ev_eql rfl rfl) ?_
      refine GO_nil ?_
      refine GN ?_
      refine G_cond_f rfl (decide_eq_false (by omega)) ?_
      refine GN ?_
      refine GN ?_
      refine G_drawE 3 (.q 0 (.q 1 (.q 2 (.q 3 (.q 4 (.q 5 (.e 6 (.q 7 (.q 8 (.q 9 (.q 10 (.e 11 .nil)))))))))))) (by kernel_rfl) (by kernel_rfl) ?_
      refine RM rfl (ev_move rfl) ?_
      (first | refine RM rfl (ev_nilCheck rfl) ?_ | refine RM rfl (ev_nilCheckF (by simp) rfl) ?_)
      refine RM rfl (ev_fieldAddr rfl) ?_
      refine RQ rfl (ev_load rfl LdA) ?_
      refine RM rfl (ev_move rfl) ?_
      refine RM rfl (ev_move rfl) ?_
      refine RS_e (RE_eff rfl rfl rfl (eff_call rfl (Ctr.pick PkA (hnew _))) ?_); rintro _ _ ⟨x, N, rfl, ⟨hx, hT⟩, rfl⟩; refine ⟨_, ExA, fun _ s => s, ?_⟩
      refine RM rfl (ev_move rfl) ?_
      refine RM rfl (ev_extract rfl rfl) ?_
      refine RM rfl (ev_extract rfl rfl) ?_
      (first | refine RM rfl (ev_indexAddrN rfl rfl NgA) ?_ | refine RM rfl (ev_indexAddr rfl rfl NgA NgA) ?_)
      refine RS_e (RE_last (by kernel_rfl) rfl rfl rfl (eff_storeO rfl rfl rfl PkA (by omega)) ?_); rintro _ _ ⟨rfl, rfl⟩
      have hl9 := hxl x hx
      have hts : (flat (List.replicate k none ++ ts.drop k : List (Option RTr)) : List Value).set (0 + k * 1) (.pointer (some ⟨x.t, 0, none⟩)) = flat (putT ts k x) := by
        rw [show 0 + k * 1 = k by omega]
        refine (flat_setO (some x) _ k).trans ?_
        congr 1
        unfold putT
        rw [List.set_append_right _ _ (by simp), List.length_replicate, Nat.sub_self, ← List.getElem_cons_drop (show k < ts.length by omega), List.set_cons_zero]
      have hpl : (putT ts k x).length = n := by rw [putT_len]; omega
      rw [hts]
      refine G_heap (L' := blk s 69 (lsC (some ⟨ab, 0, none⟩) (n) c b (gone : Nat) most built) :: mpH b M :: own 63 1 (some ⟨ab, 0, none⟩) (n) c (flat (putT ts k x)) :: pk N :: blk b3 28 [.int .i64 p.id, .int .i64 p.x, .int .i64 p.y] :: F :: L) EpA ?_
      refine GN ?_
      refine G_draw (.q 0 (.q 1 (.q 2 (.q 3 (.q 4 (.e 5 .nil)))))) (by kernel_rfl) (by kernel_rfl) ?_
      refine RM rfl (ev_move rfl) ?_
      (first | refine RM rfl (ev_nilCheck rfl) ?_ | refine RM rfl (ev_nilCheckF (by simp) rfl) ?_)
      refine RM rfl (ev_fieldAddr rfl) ?_
      refine RQ rfl (ev_load rfl LdA) ?_
      refine RQ rfl (ev_loadN rfl LnA) ?_
      refine RS_e (RE_last (by kernel_rfl) rfl rfl rfl (eff_mapUpdate rfl rfl rfl PkA) ?_); rintro _ _ ⟨rfl, rfl⟩
      refine GN ?_
      refine G_region ?_
      refine GQ (ev_move rfl) ?_
      (first | refine GQ (ev_nilCheck rfl) ?_ | refine GQ (ev_nilCheckF (by simp) rfl) ?_)
      refine GQ (ev_fieldAddr rfl) ?_
      refine GQ (ev_load rfl LdA) ?_
      refine GQ (ev_move rfl) ?_
      refine GQ (ev_len rfl) ?_
      (first | refine GQ (ev_addN rfl rfl NgA) ?_ | refine GQ (ev_add rfl rfl NgA) ?_)
      (first | refine GQ (ev_nilCheck rfl) ?_ | refine GQ (ev_nilCheckF (by simp) rfl) ?_)
      refine GQ (ev_fieldAddr rfl) ?_
      refine GE (eff_store rfl rfl rfl UpA) ?_; rintro _ _ ⟨rfl, rfl⟩
      refine GO_nil ?_
      refine GN ?_
      exact G_end (rs := []) (vs := []) (L' := blk s 69 (lsC (some ⟨ab, 0, none⟩) (n) c b (gone : Nat) most (built + (all.length : Nat))) :: mpH b (putM p false M) :: own 63 1 (some ⟨ab, 0, none⟩) (n) c (flat (putT ts k x)) :: pk N :: L) rfl .nil EpA ⟨some ⟨ab, 0, none⟩, c, k, x, N, rfl, hpt x N hx hT, ⟨ab, rfl⟩, by rw [hpl, hl9]⟩
end Go.Proofs.YtkoncepjfgnjlaaGreat
/- Points in several trees: the map's entries; what is reported, told plainly. -/
namespace Go.Proofs.YtkoncepjfgnjlaaGreat
set_option linter.unusedVariables false
set_option linter.unusedSimpArgs false

def keyM (M : List (Pt × Bool)) : List Pt := M.map (·.1)
/-- Those that are dead. -/
def dds (M : List (Pt × Bool)) : List Pt := (M.filter (·.2)).map (·.1)
theorem keyM_app (M N : List (Pt × Bool)) : keyM (M ++ N) = keyM M ++ keyM N := by simp [keyM]
theorem dds_app (M N : List (Pt × Bool)) : dds (M ++ N) = dds M ++ dds N := by simp [dds]
theorem dds_cons (p : Pt) (b : Bool) (M : List (Pt × Bool)) : dds ((p, b) :: M) = (if b then [p] else []) ++ dds M := by
  cases b <;> simp [dds]
theorem getM_none {p : Pt} : ∀ {M : List (Pt × Bool)}, getM p M = none ↔ p ∉ keyM M
  | [] => by simp [getM, keyM]
  | x :: M => by
    unfold getM
    by_cases h : p = x.1
    · simp [h, keyM]
    · have := getM_none (p := p) (M := M)
      simp [h, this, keyM]
theorem putM_new {p : Pt} {v : Bool} : ∀ {M : List (Pt × Bool)}, p ∉ keyM M → putM p v M = M ++ [(p, v)]
  | [], _ => rfl
  | x :: M, h => by
    have h1 : p ≠ x.1 := fun e => h (by simp [keyM, e])
    have h2 : p ∉ keyM M := fun e => h (by simp [keyM] at e ⊢; exact .inr e)
    simp [putM, h1, putM_new h2]
theorem putM_old {p : Pt} : ∀ {M : List (Pt × Bool)}, p ∈ keyM M → ∃ A b C, M = A ++ (p, b) :: C ∧ p ∉ keyM A ∧ getM p M = some b ∧ ∀ v, putM p v M = A ++ (p, v) :: C
  | [], h => by simp [keyM] at h
  | x :: M, h => by
    by_cases h1 : p = x.1
    · exact ⟨[], x.2, M, by rw [h1]; rfl, by simp [keyM], by simp [getM, h1], fun v => by simp [putM, h1]⟩
    · have h2 : p ∈ keyM M := by
        simp only [keyM, List.map_cons, List.mem_cons] at h
        exact h.resolve_left h1
      obtain ⟨A, b, C, e, hA, hg, hp⟩ := putM_old h2
      refine ⟨x :: A, b, C, by rw [e]; rfl, fun hm => ?_, by simp [getM, h1, hg], fun v => by simp [putM, h1, hp]⟩
      simp only [keyM, List.map_cons, List.mem_cons] at hm
      exact hm.elim h1 hA
theorem mem_dds {p : Pt} {M : List (Pt × Bool)} : p ∈ dds M ↔ (p, true) ∈ M := by
  simp [dds]
theorem mem_alv {p : Pt} {M : List (Pt × Bool)} : p ∈ alv M ↔ (p, false) ∈ M := by
  simp [alv]
theorem alv_sub (M : List (Pt × Bool)) : (alv M).Sublist (keyM M) := List.filter_sublist.map _
theorem getM_iff {p : Pt} {b : Bool} : ∀ {M : List (Pt × Bool)}, (keyM M).Nodup → (getM p M = some b ↔ (p, b) ∈ M)
  | [], _ => by simp [getM]
  | x :: M, h => by
    have h0 := List.nodup_cons.1 (show (x.1 :: keyM M).Nodup from h)
    have ih := getM_iff (p := p) (b := b) h0.2
    obtain ⟨xp, xb⟩ := x
    unfold getM
    by_cases h1 : p = xp
    · subst h1
      have h2 : ∀ b, (p, b) ∉ M := fun b hm => h0.1 (List.mem_map.2 ⟨_, hm, rfl⟩)
      simp [h2, eq_comm]
    · simp [h1, ih]
theorem alv_perm {M : List (Pt × Bool)} (nd : (keyM M).Nodup) : (alv M).Perm ((keyM M).filter fun p => !decide (p ∈ dds M)) := by
  rw [List.perm_ext_iff_of_nodup ((alv_sub M).nodup nd) (nd.filter _)]
  intro p
  rw [mem_alv, List.mem_filter]
  simp only [Bool.not_eq_true', decide_eq_false_iff_not, mem_dds]
  rw [← getM_iff nd, ← getM_iff nd]
  constructor
  · intro h
    refine ⟨Classical.not_not.1 fun hn => ?_, by rw [h]; simp⟩
    rw [getM_none.2 hn] at h; cases h
  · rintro ⟨h1, h2⟩
    cases hg : getM p M with
    | none => exact absurd h1 (getM_none.1 hg)
    | some b => cases b with
      | false => rfl
      | true => exact absurd hg h2
/-- What is known of the map. -/
structure MpR (M : List (Pt × Bool)) (f d : List Pt) : Prop where
  k : (keyM M).Perm f
  d : (dds M).Perm d
theorem MpR.len {M : List (Pt × Bool)} {f d : List Pt} (h : MpR M f d) : M.length = f.length := by
  have := h.k.length_eq; simpa [keyM] using this
theorem MpR.get_false {M : List (Pt × Bool)} {f d : List Pt} (h : MpR M f d) (nd : f.Nodup) {p : Pt} : getM p M = some false ↔ p ∈ f ∧ p ∉ d := by
  have nk := h.k.nodup_iff.2 nd
  rw [← h.k.mem_iff, ← h.d.mem_iff]
  rw [getM_iff nk, ← mem_alv, (alv_perm nk).mem_iff, List.mem_filter]
  simp
theorem MpR.get_true {M : List (Pt × Bool)} {f d : List Pt} (h : MpR M f d) (nd : f.Nodup) {p : Pt} : getM p M = some true ↔ p ∈ d := by
  have nk := h.k.nodup_iff.2 nd
  rw [← h.d.mem_iff, getM_iff nk, mem_dds]
theorem MpR.get_some {M : List (Pt × Bool)} {f d : List Pt} (h : MpR M f d) {p : Pt} : (getM p M).isSome = true ↔ p ∈ f := by
  rw [← h.k.mem_iff]
  cases hg : getM p M with
  | none => simp [getM_none.1 hg]
  | some b =>
    simp only [Option.isSome_some, true_iff]
    exact Classical.not_not.1 fun hn => by rw [getM_none.2 hn] at hg; cases hg
theorem MpR.new {M : List (Pt × Bool)} {f d : List Pt} (h : MpR M f d) {p : Pt} (hp : p ∉ f) {g : List Pt} (hg : g.Perm (p :: f)) : MpR (putM p false M) g d := by
  have hk : p ∉ keyM M := fun hm => hp (h.k.mem_iff.1 hm)
  rw [putM_new hk]
  refine ⟨?_, ?_⟩
  · rw [keyM_app]
    exact (List.perm_append_singleton p (keyM M)).trans ((h.k.cons p).trans hg.symm)
  · rw [dds_app]; simpa [dds] using h.d
theorem MpR.mark {M : List (Pt × Bool)} {f d : List Pt} (h : MpR M f d) {p : Pt} (hp : getM p M = some false) : MpR (putM p true M) f (d ++ [p]) := by
  have hk : p ∈ keyM M := Classical.not_not.1 fun hn => by rw [getM_none.2 hn] at hp; cases hp
  obtain ⟨A, b, C, e, hA, hg, hput⟩ := putM_old hk
  rw [hp] at hg
  have hb : b = false := (Option.some.inj hg).symm
  subst hb
  rw [hput]
  have h1 := h.k
  have h2 := h.d
  rw [e] at h1 h2
  refine ⟨?_, ?_⟩
  · rw [keyM_app] at h1 ⊢
    exact h1
  · rw [dds_app, dds_cons] at h2 ⊢
    simp only [Bool.false_eq_true, if_false, if_true, List.nil_append, List.singleton_append] at h2 ⊢
    exact List.perm_middle.trans ((h2.cons p).trans (List.perm_append_singleton p d).symm)
theorem MpR.back {M : List (Pt × Bool)} {f d : List Pt} (h : MpR M f d) {p : Pt} (hp : getM p M = some true) : MpR (putM p false M) f (d.erase p) := by
  have hk : p ∈ keyM M := Classical.not_not.1 fun hn => by rw [getM_none.2 hn] at hp; cases hp
  obtain ⟨A, b, C, e, hA, hg, hput⟩ := putM_old hk
  rw [hp] at hg
  have hb : b = true := (Option.some.inj hg).symm
  subst hb
  rw [hput]
  have h1 := h.k
  have h2 := h.d
  rw [e] at h1 h2
  refine ⟨?_, ?_⟩
  · rw [keyM_app] at h1 ⊢
    exact h1
  · rw [dds_app, dds_cons] at h2 ⊢
    simp only [Bool.false_eq_true, if_false, if_true, List.nil_append, List.singleton_append] at h2 ⊢
    have h3 := h2.erase p
    have h4 : (dds A ++ p :: dds C).Perm (p :: (dds A ++ dds C)) := List.perm_middle
    have h5 := h4.erase p
    rw [List.erase_cons_head] at h5
    exact h5.symm.trans h3
theorem MpR.alv {M : List (Pt × Bool)} {f d : List Pt} (h : MpR M f d) (nd : f.Nodup) : (alv M).Perm (f.filter fun p => !decide (p ∈ d)) := by
  have nk := h.k.nodup_iff.2 nd
  refine (alv_perm nk).trans ?_
  have e : (fun p => !decide (p ∈ dds M)) = fun p => !decide (p ∈ d) := by
    funext p
    have := h.d.mem_iff (a := p)
    simp [this]
  rw [e]
  exact h.k.filter _
theorem ded_dds (w : Bx) (M : List (Pt × Bool)) : ded w M = ((dds M).filter (inB w)).map (·.id) := by
  unfold ded dds
  rw [List.filter_map, List.map_map, List.filter_filter]
  congr 1
  apply List.filter_congr
  intro x _
  simp [inB, Bool.and_comm]
/-! What is told without some. -/
theorem begR_permL {b : Bx} {T : RT} {l : List Pt} (o : T.of l) (a : AscO Pt.less l) : ((begR b T).fnd b).Perm ((l.filter (inB b)).map (·.id)) :=
  (srt_perm _).symm.trans ((List.Perm.of_eq (begR_fnd o a)).trans (srt_perm _))
theorem begs_perm (b : Bx) {N : List HP} : ∀ (xs : List RTr), (∀ x ∈ xs, x.at_ N) → (fndR b (begs b xs)).Perm (((xs.flatMap (·.l)).filter (inB b)).map (·.id))
  | [], _ => .refl _
  | x :: xs, h => by
    have ih := begs_perm b xs (fun y hy => h y (List.mem_cons_of_mem _ hy))
    have hx : TR N x.t x.T x.A x.c x.l := h x List.mem_cons_self
    have h3 := begR_permL (b := b) hx.o hx.a
    rw [List.flatMap_cons, List.filter_append, List.map_append]
    exact h3.append ih
theorem liv_cons (o : Option RTr) (ts : List (Option RTr)) : liv (o :: ts) = (match o with | none => [] | some x => if 0 < x.l.length then [x] else []) ++ liv ts := by
  unfold liv
  cases o with
  | none => rfl
  | some x =>
    simp only [List.filterMap_cons, id, List.filter_cons, decide_eq_true_eq]
    split <;> simp
theorem liv_flat (ts : List (Option RTr)) : (liv ts).flatMap (·.l) = ts.flatMap opts := by
  induction ts with
  | nil => rfl
  | cons o ts ih =>
    rw [liv_cons, List.flatMap_append, List.flatMap_cons, ih]
    congr 1
    cases o with
    | none => rfl
    | some x =>
      simp only [opts]
      split
      · simp
      · rename_i h
        have : x.l = [] := List.eq_nil_of_length_eq_zero (by omega)
        simp [this]
theorem cntB_len (w : Bx) : ∀ (xs : List RTr), cntB w xs = (((xs.flatMap (·.l)).filter (inB w)).map (·.id)).length
  | [] => rfl
  | x :: xs => by
    have ih := cntB_len w xs
    rw [List.flatMap_cons, List.filter_append, List.map_append, List.length_append, ← ih]
    show (idsB w x.l).length + cntB w xs = _
    rw [idsB, (srt_perm _).length_eq]
end Go.Proofs.YtkoncepjfgnjlaaGreat
/- Points in several trees: a whole set, in the heap. -/
namespace Go.Proofs.YtkoncepjfgnjlaaGreat
open Go.RowKit
set_option linter.unusedVariables false
set_option linter.unusedSimpArgs false
set_option maxRecDepth 100000

/-- The trees hold just these lists, in order. -/
def Cor (ts : List (Option RTr)) (ls : List (List Pt)) : Prop := ts.map opts = ls.map (srtO Pt.less)
theorem Cor.len {ts : List (Option RTr)} {ls : List (List Pt)} (h : Cor ts ls) : ts.length = ls.length := by
  have := congrArg List.length h; simpa using this
theorem Cor.flat : ∀ {ts : List (Option RTr)} {ls : List (List Pt)}, Cor ts ls → (ts.flatMap opts).Perm ls.flatten
  | [], [], _ => .refl _
  | [], _ :: _, h => by cases h.len
  | _ :: _, [], h => by cases h.len
  | o :: ts, l :: ls, h => by
    have h1 : opts o = srtO Pt.less l := (List.cons.inj h).1
    have h2 : Cor ts ls := (List.cons.inj h).2
    rw [List.flatMap_cons, List.flatten_cons, h1]
    exact (srtO_perm l).append h2.flat
theorem Cor.take {ts : List (Option RTr)} {ls : List (List Pt)} (h : Cor ts ls) (k : Nat) : Cor (ts.take k) (ls.take k) := by
  unfold Cor at *
  rw [List.map_take, List.map_take, h]
theorem Cor.at_ {ts : List (Option RTr)} {ls : List (List Pt)} (h : Cor ts ls) {k : Nat} {o : Option RTr} (e : ts[k]? = some o) : ∃ l, ls[k]? = some l ∧ opts o = srtO Pt.less l := by
  have h1 : (ts.map opts)[k]? = some (opts o) := by simp [e]
  rw [show ts.map opts = ls.map (srtO Pt.less) from h, List.getElem?_map] at h1
  cases hl : ls[k]? with
  | none => rw [hl] at h1; cases h1
  | some l => rw [hl] at h1; exact ⟨l, rfl, by simpa using h1.symm⟩
theorem srtO_emp : srtO Pt.less [] = [] := by simp [srtO]
theorem Cor.put {p : Pt} {ts : List (Option RTr)} {ls : List (List Pt)} {k : Nat} {x : RTr} {N : List HP} (h : Cor ts ls) (hp : PutT p ts k x N) : Cor (putT ts k x) (putR [p] ls) ∧ putN [p] ls = x.l.length := by
  have hlen := h.len
  obtain ⟨e1, e2⟩ := putR_at k ls [p] (fun j hj => by
    have hj' : j < ts.length := Nat.lt_of_lt_of_le hj hp.le
    have g : ts[j]? = some ts[j] := List.getElem?_eq_getElem hj'
    obtain ⟨l, hl, e⟩ := h.at_ g
    have := hp.full j _ hj g
    rw [e, srtO_length] at this
    exact ⟨l, hl, this⟩) (by
    rcases hp.end_ with e | ⟨o, e, e0⟩
    · left; omega
    · right
      obtain ⟨l, hl, e⟩ := h.at_ e
      have h9 := congrArg List.length e
      rw [e0, srtO_length] at h9
      exact ⟨l, hl, h9.symm⟩)
  have hf : ([p] ++ (ls.take k).flatten).Perm (p :: (ts.take k).flatMap opts) := ((h.take k).flat.symm.cons p)
  have hx : x.l = srtO Pt.less ([p] ++ (ls.take k).flatten) := by
    rw [hp.l, gth]
    exact srtO_eq sto_less (srtO_sorted sto_less _) ((srtO_perm _).trans hf.symm)
  constructor
  · unfold Cor
    rw [e1, putT]
    simp only [List.map_append, List.map_replicate, List.map_cons, List.map_drop]
    rw [show ts.map opts = ls.map (srtO Pt.less) from h, srtO_emp]
    show List.replicate k [] ++ x.l :: _ = _
    rw [hx]
  · rw [e2, hx, srtO_length]

/-- All that a set keeps. -/
structure LgX where
  A : Option Addr
  c : Nat
  b : Nat
  ts : List (Option RTr)
  M : List (Pt × Bool)
  N : List HP
structure LgI (x : LgX) (S : LgS) : Prop where
  cor : Cor x.ts S.ls
  at_ : ∀ o ∈ x.ts, oat x.N o
  mp : MpR x.M S.ls.flatten S.d
  A : 0 < x.ts.length → ∃ b, x.A = some ⟨b, 0, none⟩
def lgL (s : Nat) (most : Int) (x : LgX) (S : LgS) : List HP := [blk s 69 (lsC x.A x.ts.length x.c x.b (S.d.length : Nat) most (S.bu : Nat)), mpH x.b x.M, own 63 1 x.A x.ts.length x.c (flat x.ts), pk x.N]
def lgF (s : Nat) (most : Int) (S : LgS) : HP := fun h => ∃ x : LgX, LgI x S ∧ sat (lgL s most x S) h
structure LgJ (x : LgX) (S : LgS) : Prop extends LgI x S where
  c1 : x.ts.length ≤ x.c
  c2 : x.c ≤ maxLen
theorem lgF_open {s : Nat} {most : Int} {S : LgS} {h : Hm} (q : lgF s most S h) : ∃ x : LgX, LgJ x S ∧ sat (lgL s most x S) h := by
  obtain ⟨x, g, q⟩ := q
  have q0 := own.facts (L := [pk x.N]) (sat.tail (sat.tail q))
  exact ⟨x, ⟨g, q0.2.1, q0.2.2.1⟩, q⟩
theorem Ctr.lg {P : Program} {f : FuncId} {args : Array Value} {L : List HP} {s : Nat} {most : Int} {S : LgS} {post : Value → List HP → Prop} (C : ∀ x, LgJ x S → Ctr P f args (blk s 69 (lsC x.A x.ts.length x.c x.b (S.d.length : Nat) most (S.bu : Nat)) :: mpH x.b x.M :: own 63 1 x.A x.ts.length x.c (flat x.ts) :: pk x.N :: L) post) : Ctr P f args (lgF s most S :: L) post :=
  Ctr.open (ι := LgX) (Fa := fun x => LgJ x S) (N := fun x => lgL s most x S) (fun _ h => lgF_open h) fun x hx => C x hx
theorem lg_open {s : Nat} {most : Int} {S : LgS} {M : List HP} {hm : Hm} (h : sat (lgF s most S :: M) hm) : ∃ x, LgJ x S ∧ sat (blk s 69 (lsC x.A x.ts.length x.c x.b (S.d.length : Nat) most (S.bu : Nat)) :: mpH x.b x.M :: own 63 1 x.A x.ts.length x.c (flat x.ts) :: pk x.N :: M) hm := by
  obtain ⟨h1, h2, d, s1, s2, q0, z⟩ := h
  obtain ⟨x, g, q⟩ := lgF_open q0
  exact ⟨x, g, sat.head (A := fun h => h = h1) (N := lgL s most x S) (fun _ e => e ▸ q) ⟨h1, h2, d, s1, s2, rfl, z⟩⟩
theorem G_lg {P : Program} {B : Exit → Act → World → Prop} {gl : Glob} {n : Nat} {K : List Kt} {σ : Env} {L : List HP} {s : Nat} {most : Int} {S : LgS} (h : ∀ x, LgJ x S → G P B gl n K σ (blk s 69 (lsC x.A x.ts.length x.c x.b (S.d.length : Nat) most (S.bu : Nat)) :: mpH x.b x.M :: own 63 1 x.A x.ts.length x.c (flat x.ts) :: pk x.N :: L)) : G P B gl n K σ (lgF s most S :: L) :=
  G_open (ι := LgX) (F := fun x => LgJ x S) (N := fun x => lgL s most x S) (fun _ h => lgF_open h) fun x hx => h x hx
theorem en_lg {L M : List HP} {s : Nat} {most : Int} {S : LgS} {n : Nat} {gone built : Int} {ts : List Value} (x : LgX) (hn : x.ts.length = n) (hg : (S.d.length : Nat) = gone) (hb : (S.bu : Nat) = built) (hts : flat x.ts = ts) (g : LgI x S) (f : ∀ h, sat L h → sat (blk s 69 (lsC x.A n x.c x.b gone most built) :: mpH x.b x.M :: own 63 1 x.A n x.c ts :: pk x.N :: M) h) : ∀ h, sat L h → sat (lgF s most S :: M) h := fun h t => by
  subst hn hg hb hts
  exact sat.fold (N := lgL s most x S) (fun h q => ⟨x, g, q⟩) (f h t)
theorem oat.mono {L M : List HP} (f : ∀ h, sat M h → sat L h) {o : Option RTr} (h : oat L o) : oat M o := fun x hx => TR.mono f (h x hx)
theorem oat.pk {N : List HP} {L : List HP} {o : Option RTr} (h : oat N o) : oat (pk N :: L) o := h.mono fun _ s => by
  obtain ⟨h1, h2, d, s1, s2, a, l⟩ := s
  exact sat.up a s1
theorem LgI.ats {x : LgX} {S : LgS} (h : LgI x S) {L : List HP} : ∀ o ∈ x.ts, oat (pk x.N :: L) o := fun o ho => (h.at_ o ho).pk
theorem LgI.oLen {x : LgX} {S : LgS} (h : LgI x S) {m : Nat} (hm : S.ls.flatten.length ≤ m) : ∀ o ∈ x.ts, (opts o).length ≤ m := fun o ho => by
  have h1 := h.cor.flat.length_eq
  have h2 : (opts o).Sublist (x.ts.flatMap opts) := List.sublist_flatten_of_mem (List.mem_map.2 ⟨o, ho, rfl⟩) |> fun h => by rwa [List.flatMap_def]
  have := h2.length_le
  omega
theorem LgI.liv {x : LgX} {S : LgS} (h : LgI x S) {L : List HP} : ∀ r ∈ liv x.ts, r.at_ (pk x.N :: L) := liv_at h.ats
theorem LgI.fnd {x : LgX} {S : LgS} (h : LgI x S) (nd : S.ls.flatten.Nodup) (w : Bx) : (fndR w (begs w (Proofs.YtkoncepjfgnjlaaGreat.liv x.ts))).Perm (ded w x.M ++ ((S.live).filter (inB w)).map (·.id)) := by
  have h1 := begs_perm w (N := pk x.N :: []) (Proofs.YtkoncepjfgnjlaaGreat.liv x.ts) h.liv
  rw [liv_flat] at h1
  refine h1.trans ?_
  rw [ded_dds, ← List.map_append, ← List.filter_append]
  refine List.Perm.map _ (List.Perm.filter _ ?_)
  refine h.cor.flat.trans ?_
  have h2 : S.live.Perm (S.ls.flatten.filter fun p => !decide (p ∈ S.d)) := srtO_perm _
  have h3 := (alv_perm (h.mp.k.nodup_iff.2 nd)).symm
  have h4 : (dds x.M ++ alv x.M).Perm (keyM x.M) := by
    unfold dds alv keyM
    rw [← List.map_append]
    exact List.Perm.map _ (List.filter_append_perm (fun y : Pt × Bool => y.2) x.M)
  exact h.mp.k.symm.trans (h4.symm.trans ((h.mp.alv nd).trans h2.symm |>.append_left _))
theorem LgI.count {x : LgX} {S : LgS} (h : LgI x S) (nd : S.ls.flatten.Nodup) (w : Bx) : ((cntB w (Proofs.YtkoncepjfgnjlaaGreat.liv x.ts) : Nat) : Int) - ((srt (ded w x.M)).length : Nat) = ((idsB w S.live).length : Nat) := by
  have h1 := (h.fnd nd w).length_eq
  have h2 := (begs_perm w (N := pk x.N :: []) (Proofs.YtkoncepjfgnjlaaGreat.liv x.ts) h.liv).length_eq
  rw [← cntB_len] at h2
  rw [List.length_append] at h1
  rw [(srt_perm _).length_eq, idsB, (srt_perm _).length_eq]
  omega
theorem LgI.dead {x : LgX} {S : LgS} (h : LgI x S) (w : Bx) : srt (ded w x.M) = idsB w S.d := by
  rw [ded_dds]
  exact srt_congr ((h.mp.d.filter _).map _)
end Go.Proofs.YtkoncepjfgnjlaaGreat
/- Points in several trees: the reference as a whole; its Insert, Delete and Sizes. -/
namespace Go.Proofs.YtkoncepjfgnjlaaGreat
attribute [local irreducible] sat
open Go.RowKit
set_option linter.unusedVariables false
set_option linter.unusedSectionVars false
set_option linter.unusedSimpArgs false
set_option maxRecDepth 100000

structure RfX where
  A : Option Addr
  c : Nat
  qs : List QS
  D : Option Addr
  e : Nat
  N : List HP
structure RfI (x : RfX) (S : LgS) : Prop where
  qs : x.qs.map (·.l) = S.ls
  at_ : ∀ q ∈ x.qs, q.at_ x.N
  dd : Rd x.N x.D S.d.length S.d
  c1 : S.d.length ≤ x.e
  c2 : x.e ≤ maxLen
  A : 0 < x.qs.length → ∃ b, x.A = some ⟨b, 0, none⟩
theorem RfI.len {x : RfX} {S : LgS} (h : RfI x S) : x.qs.length = S.ls.length := by rw [← h.qs, List.length_map]
def rfL (r : Nat) (most : Int) (x : RfX) (S : LgS) : List HP := [blk r 40 (rfC x.A x.qs.length x.c x.D S.d.length x.e most (S.bu : Nat)), own 38 1 x.A x.qs.length x.c (flat x.qs), pk x.N]
def rfF (r : Nat) (most : Int) (S : LgS) : HP := fun h => ∃ x : RfX, RfI x S ∧ sat (rfL r most x S) h
theorem Ctr.rf {P : Program} {f : FuncId} {args : Array Value} {L : List HP} {r : Nat} {most : Int} {S : LgS} {post : Value → List HP → Prop} (C : ∀ x, RfI x S → Ctr P f args (blk r 40 (rfC x.A x.qs.length x.c x.D S.d.length x.e most (S.bu : Nat)) :: own 38 1 x.A x.qs.length x.c (flat x.qs) :: pk x.N :: L) post) : Ctr P f args (rfF r most S :: L) post :=
  Ctr.open (ι := RfX) (Fa := fun x => RfI x S) (N := fun x => rfL r most x S) (fun _ h => h) fun x hx => C x hx
theorem G_rf {P : Program} {B : Exit → Act → World → Prop} {gl : Glob} {n : Nat} {K : List Kt} {σ : Env} {L : List HP} {r : Nat} {most : Int} {S : LgS} (h : ∀ x, RfI x S → G P B gl n K σ (blk r 40 (rfC x.A x.qs.length x.c x.D S.d.length x.e most (S.bu : Nat)) :: own 38 1 x.A x.qs.length x.c (flat x.qs) :: pk x.N :: L)) : G P B gl n K σ (rfF r most S :: L) :=
  G_open (ι := RfX) (F := fun x => RfI x S) (N := fun x => rfL r most x S) (fun _ h => h) fun x hx => h x hx
theorem en_rf {L M : List HP} {r : Nat} {most : Int} {S : LgS} {n m : Nat} {bu : Int} {qs : List Value} (x : RfX) (hn : x.qs.length = n) (hm : S.d.length = m) (hb : (S.bu : Nat) = bu) (hqs : flat x.qs = qs) (g : RfI x S) (f : ∀ h, sat L h → sat (blk r 40 (rfC x.A n x.c x.D m x.e most bu) :: own 38 1 x.A n x.c qs :: pk x.N :: M) h) : ∀ h, sat L h → sat (rfF r most S :: M) h := fun h t => by
  subst hn hm hb hqs
  exact sat.fold (N := rfL r most x S) (fun h q => ⟨x, g, q⟩) (f h t)
theorem QS.at_.mono {L M : List HP} (f : ∀ h, sat M h → sat L h) {q : QS} (h : q.at_ L) : q.at_ M := Rd.mono f h
theorem sat_l {N M : List HP} {h : Hm} (s : sat (N ++ M) h) : sat N h := by
  obtain ⟨h1, h2, d, s1, s2, n, l⟩ := s.split
  exact n.up s1
theorem QS.at_.pk {N L : List HP} {q : QS} (h : q.at_ N) : q.at_ (pk N :: L) := h.mono fun _ s => sat_l (sat.part s)
theorem Rd.pk {α : Type} [Enc α] {N L : List HP} {A : Option Addr} {n : Nat} {l : List α} (h : Rd N A n l) : Rd (pk N :: L) A n l := Rd.mono (fun _ s => sat_l (sat.part s)) h
theorem lv_le9 {n m : Nat} (h : n = 0 ∨ 2 ^ (n - 1) ≤ m) (hm : m ≤ 600) : n ≤ 10 := by
  rcases h with h | h
  · omega
  · rcases Nat.lt_or_ge n 11 with h1 | h1
    · omega
    · have : 2 ^ 10 ≤ 2 ^ (n - 1) := Nat.pow_le_pow_right (by decide) (by omega)
      omega
section
variable {x : RfX} {S : LgS} {r : Nat} {most : Int} {L : List HP} (hx : RfI x S) (h : LdN L r 0 4 (rfC x.A x.qs.length x.c x.D S.d.length x.e most (S.bu : Nat))) (hq : Rd L x.A x.qs.length x.qs) (hin : ∀ q ∈ x.qs, q.at_ L) (hd : Rd L x.D S.d.length S.d)
include hx h hq hin hd
theorem KLive_ctr (nd : S.ls.flatten.Nodup) (hl : S.ls.length ≤ 1000) (ht : S.ls.flatten.length ≤ 1000) (hdl : S.d.length ≤ 1000) : Ctr Tryz.prog 20 #[.pointer (some ⟨r, 0, none⟩)] L fun v L' => ∃ b c', v = .slice (some ⟨b, 0, none⟩) S.live.length c' ∧ S.live.length ≤ c' ∧ c' ≤ maxLen ∧ L' = own 28 3 (some ⟨b, 0, none⟩) S.live.length c' (flat S.live) :: L := by
  have h1 := hx.len
  have := rLive_ctr r x.A x.qs.length x.c x.qs x.D S.d.length x.e S.d most S.bu L h hq hin hd (by omega) hdl (by rw [hx.qs]; exact ht)
  rwa [hx.qs, show sortX (S.ls.flatten.filter fun p => !decide (p ∈ S.d)) = S.live from sortX_eq (nd.filter _)] at this
end
theorem en_2 {N M L : List HP} {h : Hm} (s : sat (pk N :: pk M :: L) h) : sat (pk (N ++ M) :: L) h := by
  have h1 : sat (N ++ (pk M :: L)) h := sat.part s
  have h2 : sat (pk M :: (N ++ L)) h := h1.perm List.perm_middle
  have h3 : sat (M ++ (N ++ L)) h := sat.part h2
  have h4 : sat ((N ++ M) ++ L) h := h3.perm (by
    rw [← List.append_assoc]
    exact (List.perm_append_comm).append_right L)
  exact sat.join h4
/-- One part more. -/
theorem en_pk1 {X : HP} {N L M : List HP} (f : ∀ h, sat L h → sat (X :: pk N :: M) h) : ∀ h, sat L h → sat (pk (X :: N) :: M) h := fun h s => by
  have h1 : sat (pk [X] :: pk N :: M) h := sat.join (N := [X]) (f h s)
  exact en_2 h1
theorem rPut_ctr (r : Nat) (most : Int) (S : LgS) (p : Pt) (L : List HP) (hl : S.ls.length ≤ 50) (ht : S.ls.flatten.length ≤ 1000) (hb : S.bu ≤ 1000000000) :
    Ctr Tryz.prog 72 #[.pointer (some ⟨r, 0, none⟩), p.v] (rfF r most S :: L) fun v L' => v = .tuple #[] ∧ L' = rfF r most (S.put p) :: L := by
  refine Ctr.rf fun x hx => ?_
  have h1 := hx.len
  refine (rput_ctr r x.A x.qs.length x.c x.qs x.D S.d.length x.e most S.bu p (pk x.N :: L) hx.A rfl (fun q hq => (hx.at_ q hq).pk) (by omega) (by rw [hx.qs]; exact ht) hb).post' ?_
  rintro v L' hm ⟨A', c', k, es, q, N, rfl, hp, hA', rfl⟩ hs
  obtain ⟨e1, e2⟩ := hp.cor
  rw [hx.qs] at e1 e2
  refine ⟨_, ⟨rfl, rfl⟩, ?_⟩
  have hI : RfI ⟨A', c', putQ es x.qs k q, x.D, x.e, N ++ x.N⟩ (S.put p) := ⟨e1, fun u hu => ?_, Rd.mono (fun _ s => sat_l (s.perm List.perm_append_comm)) hx.dd, hx.c1, hx.c2, fun _ => hA'⟩
  · refine en_rf ⟨A', c', putQ es x.qs k q, x.D, x.e, N ++ x.N⟩ rfl rfl (bu := ((S.bu + q.l.length : Nat) : Int)) ?_ rfl hI (fun h s => ?_) hm hs
    · show ((S.bu + putN [p] S.ls : Nat) : Int) = _
      rw [e2]
    · exact sat.cons_mono (fun _ s => sat.cons_mono (fun _ s => en_2 s) s) s
  · rcases List.mem_append.1 (show u ∈ es ++ q :: x.qs.drop (k + 1) from hu) with h | h
    · have := hp.e0 u h
      show Rd _ _ u.l.length u.l
      rw [this]
      exact Rd.nil _ _
    · rcases List.mem_cons.1 h with rfl | h
      · exact hp.t.mono fun _ s => sat_l s
      · exact (hx.at_ u (List.mem_of_mem_drop h)).mono (fun _ s => sat_l (s.perm List.perm_append_comm))
theorem rInsert_ctr (r : Nat) (most : Int) (S : LgS) (p : Pt) (m : Nat) (L : List HP) (ok : LgOk S m) (hm : m ≤ 300) :
    Ctr Tryz.prog 44 #[.pointer (some ⟨r, 0, none⟩), p.v] (rfF r most S :: L) fun v L' => v = .int .i64 (insC most S.live p) ∧ L' = rfF r most (S.ins most p) :: L := by
  refine Ctr.rf fun x hx => ?_
  have hll := ok.live_len
  have htot := ok.tot
  have hbt := ok.bt
  have hl10 : S.ls.length ≤ 10 := lv_le9 ok.lv (by omega)
  have hlen := hx.len
  have hql : ∀ X, Rd (own 38 1 x.A x.qs.length x.c (flat x.qs) :: X) x.A x.qs.length x.qs := fun X => Rc.own (flat_length _) hx.A
  have hin : ∀ X, ∀ q ∈ x.qs, q.at_ (pk x.N :: X) := fun X q hq => (hx.at_ q hq).pk
  have hdd : ∀ X, Rd (pk x.N :: X) x.D S.d.length S.d := fun X => Rd.pk hx.dd
  have hlive := fun M h1 h2 h3 h4 => KLive_ctr (r := r) (most := most) (L := M) hx h1 h2 h3 h4 ok.nd (by omega) (by omega) (by omega)
  have hins := fun b M => RInsert_ctr b most S.live p M (by omega)
  refine Ctr_of (fn := Tryz.f44) (n := 62) Tryz.func44 rfl rfl rfl ?_
  intro g F
  refine GN ?_
  refine G_region ?_
  refine GE (eff_box rfl) ?_; rintro _ _ ⟨b3, rfl, rfl⟩
  refine GQ (ev_assign rfl) ?_
  refine GO_nil ?_
  refine GN ?_
  refine G_draw (.q 0 (.q 2 (.q 3 (.q 4 (.q 5 (.e 1 (.q 6 (.e 7 (.q 8 .nil))))))))) (by kernel_rfl) (by kernel_rfl) ?_
  refine RM rfl (ev_move rfl) ?_
  refine RM rfl (ev_move rfl) ?_
  (first | refine RM rfl (ev_nilCheck rfl) ?_ | refine RM rfl (ev_nilCheckF (by simp) rfl) ?_)
  refine RM rfl (ev_fieldAddr rfl) ?_
  refine RQ rfl (ev_load rfl LdA) ?_
  refine RS_e (RE_eff rfl rfl rfl (eff_call rfl (hlive _ (by repeat' first | exact LdN.blk rfl | apply LdN.skip) (by repeat' first | exact hql _ | apply Rd.skip) (fun q hq => by repeat' first | exact hin _ q hq | apply QS.at_.skip) (by repeat' first | exact hdd _ | apply Rd.skip))) ?_); rintro _ _ ⟨bl, cl, rfl, k1, k2, rfl⟩; refine ⟨_, fun _ s => s, ExA, ?_⟩
  refine RM rfl (ev_build rfl rfl) ?_
  refine RS_e (RE_eff rfl rfl rfl (eff_box rfl) ?_); rintro _ _ ⟨b15, rfl, rfl⟩; refine ⟨_, fun _ s => s, ExA, ?_⟩
  refine RM rfl (ev_assign rfl) ?_
  refine RS_nil ?_
  refine G_heap (L' := setS b15 most S.live :: blk r 40 (rfC x.A x.qs.length x.c x.D S.d.length x.e most (S.bu : Nat)) :: own 38 1 x.A x.qs.length x.c (flat x.qs) :: pk x.N :: blk b3 28 [.int .i64 p.id, .int .i64 p.x, .int .i64 p.y] :: F :: L) (by (repeat first | exact en_refl | apply en_set (A := some ⟨bl, 0, none⟩) (c := cl) (fun _ => ⟨bl, rfl⟩) | (apply en_blk; focus ((repeat' first | exact Pick.here | apply Pick.skip | apply Pick.app); done); focus rfl) | (apply en_own; focus ((repeat' first | exact Pick.here | apply Pick.skip | apply Pick.app); done); focus rfl) | (apply en_pick; focus ((repeat' first | exact Pick.here | apply Pick.skip | apply Pick.app); done)) | apply en_drop | apply en_app) <;> fail) ?_
  refine GN ?_
  refine G_region ?_
  refine GQ (ev_move rfl) ?_
  refine GQ (ev_loadN rfl LnA) ?_
  refine GE (eff_call rfl (hins b15 _)) ?_; rintro _ _ ⟨rfl, rfl⟩
  refine GQ (ev_assign rfl) ?_
  refine GO_nil ?_
  refine G_heap (L' := blk r 40 (rfC x.A x.qs.length x.c x.D S.d.length x.e most (S.bu : Nat)) :: own 38 1 x.A x.qs.length x.c (flat x.qs) :: pk x.N :: blk b3 28 [.int .i64 p.id, .int .i64 p.x, .int .i64 p.y] :: F :: L) EpA ?_
  refine GN ?_
  refine G_region ?_
  refine GQ (ev_move rfl) ?_
  refine GQ (ev_neq rfl rfl) ?_
  refine GO_nil ?_
  unfold LgS.ins
  generalize hcd : insC most S.live p = cd at *
  by_cases h0 : cd = 0
  · rw [if_pos h0]
    refine GN ?_
    refine G_cond_f rfl (decide_eq_false (by simp [h0])) ?_
    refine GN ?_
    refine G_region ?_
    refine GQ (ev_assign rfl) ?_
    refine GO_nil ?_
    (repeat first | refine G_seq ?_ | refine G_skip ?_ | refine G_endblk ?_)
    by_cases hd : p ∈ S.d
    · rw [if_pos hd]
      have e4 : S.d.idxOf p < S.d.length := List.idxOf_lt_length_iff.2 hd
      have e2 := erase_idx p S.d hd
      have e5 : S.d[S.d.idxOf p]? = some p := by
        rw [List.getElem?_eq_getElem e4, List.getElem_idxOf]
      rw [← e2]
      have e6 : ∀ j, j < S.d.idxOf p → ∀ u, S.d[j]? = some u → u ≠ p := fun j hj u hu e => by
        subst e
        have := List.not_of_lt_findIdx (p := (· == u)) (xs := S.d) (i := j) hj
        have hj2 : j < S.d.length := by omega
        rw [List.getElem?_eq_getElem hj2] at hu
        simp at this
        exact this (Option.some.inj hu)
      generalize S.d.idxOf p = j at *
      refine GN ?_
      refine G_loop (ι := Nat) (fun i => [(0, .pointer (some ⟨r, 0, none⟩)), (3, .pointer (some ⟨b3, 0, none⟩)), (7, .int .i64 (i : Nat))]) (fun _ => blk r 40 (rfC x.A x.qs.length x.c x.D S.d.length x.e most (S.bu : Nat)) :: own 38 1 x.A x.qs.length x.c (flat x.qs) :: pk x.N :: blk b3 28 [.int .i64 p.id, .int .i64 p.x, .int .i64 p.y] :: F :: L) (fun i => i ≤ j) (fun i => j - i) 0 (Nat.zero_le _) ⟨rfl, rfl, rfl, trivial⟩ EnA ?_
      intro i f1
      have f1 : i ≤ j := f1
      obtain ⟨db, dof, eD, hxx⟩ := (hdd []).at_ (by omega)
      have g1 : S.d[i]? = some S.d[i] := List.getElem?_eq_getElem (by omega)
      have y1 : ∀ X, LdN (pk x.N :: X) db (dof + i * 3) 3 [.int .i64 S.d[i].id, .int .i64 S.d[i].x, .int .i64 S.d[i].y] := fun X => by
        obtain ⟨_, _, e9, hxx⟩ := (hdd X).at_ (by omega)
        rw [eD] at e9
        cases e9
        exact hxx _ _ g1
      have c2 : i < j ∨ i = j := by omega
      have n1 : i < j → S.d[i] ≠ p := fun h => e6 i h _ g1
      have n2 : i = j → S.d[i] = p := fun h => by subst h; rw [g1] at e5; exact Option.some.inj e5
      generalize S.d[i] = u at *
      have m1 : ∀ X, Rc (pk x.N :: X) 3 (some ⟨db, dof, none⟩) j (flat (S.d.take j)) := fun X => by have := (hdd X).take (k := j) (by omega); rw [eD] at this; exact this
      have m2 : ∀ X, Rc (pk x.N :: X) 3 (some ⟨db, (if x.e = j + 1 then dof else dof + (j + 1) * 3), none⟩) (S.d.length - (j + 1)) (flat (S.d.drop (j + 1))) := fun X => by have := hdd X; rw [eD] at this; exact this.drop (by omega) hx.c1
      have xc1 := hx.c1
      have xc2 := hx.c2
      unfold maxLen at xc2
      rw [eD]
      refine GN ?_
      refine G_region ?_
      refine GQ (ev_move rfl) ?_
      refine GQ (ev_move rfl) ?_
      (first | refine GQ (ev_nilCheck rfl) ?_ | refine GQ (ev_nilCheckF (by simp) rfl) ?_)
      refine GQ (ev_fieldAddr rfl) ?_
      refine GQ (ev_load rfl LdA) ?_
      refine GQ (ev_len rfl) ?_
      (first | refine GQ (ev_lssN rfl rfl) ?_ | refine GQ (ev_lss rfl rfl) ?_)
      refine GO_nil ?_
      refine GN ?_
      refine G_cond_t rfl (decide_eq_true (by omega)) ?_
      refine GN ?_
      refine G_draw (.q 0 (.q 1 (.q 2 (.q 3 (.q 4 (.q 5 (.q 6 (.q 7 (.q 8 .nil))))))))) (by kernel_rfl) (by kernel_rfl) ?_
      refine RM rfl (ev_move rfl) ?_
      (first | refine RM rfl (ev_nilCheck rfl) ?_ | refine RM rfl (ev_nilCheckF (by simp) rfl) ?_)
      refine RM rfl (ev_fieldAddr rfl) ?_
      refine RQ rfl (ev_load rfl LdA) ?_
      refine RM rfl (ev_move rfl) ?_
      (first | refine RM rfl (ev_indexAddrN rfl rfl NgA) ?_ | refine RM rfl (ev_indexAddr rfl rfl NgA NgA) ?_)
      refine RQ rfl (ev_loadN rfl (by repeat' first | exact y1 _ | apply LdN.skip)) ?_
      refine RQ rfl (ev_loadN rfl LnA) ?_
      refine RM rfl (ev_eqlS rfl rfl rfl rfl rfl rfl) ?_
      refine RS_nil ?_
      rcases c2 with c2 | c2
      · have n1 := n1 c2
        refine GN ?_
        refine G_cond_f rfl (decide_eq_false (fun h => n1 ((pt_list u p).1 h))) ?_
        refine GN ?_
        refine GN ?_
        refine G_region ?_
        refine GQ (ev_move rfl) ?_
        (first | refine GQ (ev_addN (q := 1) rfl rfl NgA) ?_ | refine GQ (ev_add rfl rfl NgA) ?_)
        refine GQ (ev_assign rfl) ?_
        refine GO_nil ?_
        refine GN ?_
        rw [← eD]
        exact G_round (i + 1) (by omega) (by omega) ⟨rfl, rfl, rfl, trivial⟩ EpA
      · have n3 := n2 c2
        clear n1 n2
        subst c2
        subst n3
        refine GN ?_
        refine G_cond_t rfl (decide_eq_true rfl) ?_
        refine GN ?_
        refine G_draw (.q 0 (.q 2 (.q 3 (.q 4 (.q 5 (.q 6 (.q 7 (.q 9 (.q 10 (.q 11 (.q 12 (.q 13 (.q 14 (.q 15 (.e 1 (.e 8 (.e 16 (.q 17 (.q 18 (.e 19 .nil)))))))))))))))))))) (by kernel_rfl) (by kernel_rfl) ?_
        refine RM rfl (ev_move rfl) ?_
        refine RM rfl (ev_move rfl) ?_
        (first | refine RM rfl (ev_nilCheck rfl) ?_ | refine RM rfl (ev_nilCheckF (by simp) rfl) ?_)
        refine RM rfl (ev_fieldAddr rfl) ?_
        refine RQ rfl (ev_load rfl LdA) ?_
        refine RM rfl (ev_move rfl) ?_
        refine RQ rfl (ev_sliceH rfl rfl NgA) ?_
        refine RM rfl (ev_move rfl) ?_
        (first | refine RM rfl (ev_nilCheck rfl) ?_ | refine RM rfl (ev_nilCheckF (by simp) rfl) ?_)
        refine RM rfl (ev_fieldAddr rfl) ?_
        refine RQ rfl (ev_load rfl LdA) ?_
        refine RM rfl (ev_move rfl) ?_
        (first | refine RM rfl (ev_addN (q := 1) rfl rfl NgA) ?_ | refine RM rfl (ev_add rfl rfl NgA) ?_)
        refine RQ rfl (ev_sliceL rfl rfl NgA NgA) ?_
        refine RS_e (RE_eff rfl rfl rfl eff_buildSlice0 ?_); rintro _ _ ⟨b41, rfl, rfl⟩; refine ⟨_, ExA, fun _ s => s, ?_⟩
        refine RS_e (RE_eff rfl rfl rfl (eff_append rfl rfl PkA ((by repeat' first | exact m1 _ | apply Rc.skip)) ((flat_one _)) (by rfl) (by decide) NgA NgA) ?_); rintro _ _ ⟨A48, c48, rfl, hc48, hm48, hn48, rfl⟩; refine ⟨_, ExA, fun _ s => s, ?_⟩
        refine RS_e (RE_eff rfl rfl rfl (eff_append rfl rfl PkA ((by repeat' first | exact m2 _ | apply Rc.skip)) ((flat_one _)) (by rfl) (by decide) NgA NgA) ?_); rintro _ _ ⟨A56, c56, rfl, hc56, hm56, hn56, rfl⟩; refine ⟨_, ExA, fun _ s => s, ?_⟩
        (first | refine RM rfl (ev_nilCheck rfl) ?_ | refine RM rfl (ev_nilCheckF (by simp) rfl) ?_)
        refine RM rfl (ev_fieldAddr rfl) ?_
        refine RS_e (RE_last (by kernel_rfl) rfl rfl rfl (eff_store rfl rfl rfl UpA) ?_); rintro _ _ ⟨rfl, rfl⟩
        all_goals
          have nn : 0 + i + (S.d.length - (i + 1)) = (S.d.take i ++ S.d.drop (i + 1)).length := by simp; omega
          rw [nn] at hc56 hn56
          rw [nn]
          have hI : RfI ⟨x.A, x.c, x.qs, A56, c56, own 28 3 A56 (S.d.take i ++ S.d.drop (i + 1)).length c56 (flat (S.d.take i ++ S.d.drop (i + 1))) :: x.N⟩ ⟨S.ls, S.d.take i ++ S.d.drop (i + 1), S.bu⟩ := ⟨hx.qs, fun q hq => (hx.at_ q hq).skip, Rc.own (flat_length _) hn56, hc56, hm56, hx.A⟩
          refine GN ?_
          refine G_region ?_
          refine GQ (ev_assign rfl) ?_
          refine GO_nil ?_
          refine GN ?_
          refine G_ret (L' := rfF r most ⟨S.ls, S.d.take i ++ S.d.drop (i + 1), S.bu⟩ :: L) rfl (.tmp rfl .nil) ?_ ⟨by rw [h0]; rfl, rfl⟩
          apply en_pick
          focus ((repeat' first | exact Pick.here | apply Pick.skip | apply Pick.app); done)
          refine en_rf ⟨x.A, x.c, x.qs, A56, c56, own 28 3 A56 (S.d.take i ++ S.d.drop (i + 1)).length c56 (flat (S.d.take i ++ S.d.drop (i + 1))) :: x.N⟩ rfl rfl rfl rfl hI ?_
          refine en_blk PkA rfl (en_pick PkA (en_pk1 (en_own PkA (by rw [flat_append]; rfl) EpA)))
    · rw [if_neg hd]
      have hput := fun M => rPut_ctr r most S p M (by omega) (by omega) (by omega)
      refine GN ?_
      refine G_loop (ι := Nat) (fun i => [(0, .pointer (some ⟨r, 0, none⟩)), (3, .pointer (some ⟨b3, 0, none⟩)), (7, .int .i64 (i : Nat))]) (fun _ => blk r 40 (rfC x.A x.qs.length x.c x.D S.d.length x.e most (S.bu : Nat)) :: own 38 1 x.A x.qs.length x.c (flat x.qs) :: pk x.N :: blk b3 28 [.int .i64 p.id, .int .i64 p.x, .int .i64 p.y] :: F :: L) (fun i => i ≤ S.d.length) (fun i => S.d.length - i) 0 (Nat.zero_le _) ⟨rfl, rfl, rfl, trivial⟩ EnA ?_
      intro i f1
      have f1 : i ≤ S.d.length := f1
      by_cases c2 : i < S.d.length
      · obtain ⟨db, dof, eD, hxx⟩ := (hdd []).at_ (by omega)
        have g1 : S.d[i]? = some S.d[i] := List.getElem?_eq_getElem (by omega)
        have y1 : ∀ X, LdN (pk x.N :: X) db (dof + i * 3) 3 [.int .i64 S.d[i].id, .int .i64 S.d[i].x, .int .i64 S.d[i].y] := fun X => by
          obtain ⟨_, _, e9, hxx⟩ := (hdd X).at_ (by omega)
          rw [eD] at e9
          cases e9
          exact hxx _ _ g1
        have n1 : S.d[i] ≠ p := fun h => hd (h ▸ List.getElem_mem _)
        generalize S.d[i] = u at *
        rw [eD]
        refine GN ?_
        refine G_region ?_
        refine GQ (ev_move rfl) ?_
        refine GQ (ev_move rfl) ?_
        (first | refine GQ (ev_nilCheck rfl) ?_ | refine GQ (ev_nilCheckF (by simp) rfl) ?_)
        refine GQ (ev_fieldAddr rfl) ?_
        refine GQ (ev_load rfl LdA) ?_
        refine GQ (ev_len rfl) ?_
        (first | refine GQ (ev_lssN rfl rfl) ?_ | refine GQ (ev_lss rfl rfl) ?_)
        refine GO_nil ?_
        refine GN ?_
        refine G_cond_t rfl (decide_eq_true (by omega)) ?_
        refine GN ?_
        refine G_draw (.q 0 (.q 1 (.q 2 (.q 3 (.q 4 (.q 5 (.q 6 (.q 7 (.q 8 .nil))))))))) (by kernel_rfl) (by kernel_rfl) ?_
        refine RM rfl (ev_move rfl) ?_
        (first | refine RM rfl (ev_nilCheck rfl) ?_ | refine RM rfl (ev_nilCheckF (by simp) rfl) ?_)
        refine RM rfl (ev_fieldAddr rfl) ?_
        refine RQ rfl (ev_load rfl LdA) ?_
        refine RM rfl (ev_move rfl) ?_
        (first | refine RM rfl (ev_indexAddrN rfl rfl NgA) ?_ | refine RM rfl (ev_indexAddr rfl rfl NgA NgA) ?_)
        refine RQ rfl (ev_loadN rfl (by repeat' first | exact y1 _ | apply LdN.skip)) ?_
        refine RQ rfl (ev_loadN rfl LnA) ?_
        refine RM rfl (ev_eqlS rfl rfl rfl rfl rfl rfl) ?_
        refine RS_nil ?_
        refine GN ?_
        refine G_cond_f rfl (decide_eq_false (fun h => n1 ((pt_list u p).1 h))) ?_
        refine GN ?_
        refine GN ?_
        refine G_region ?_
        refine GQ (ev_move rfl) ?_
        (first | refine GQ (ev_addN (q := 1) rfl rfl NgA) ?_ | refine GQ (ev_add rfl rfl NgA) ?_)
        refine GQ (ev_assign rfl) ?_
        refine GO_nil ?_
        refine GN ?_
        rw [← eD]
        exact G_round (i + 1) (by omega) (by omega) ⟨rfl, rfl, rfl, trivial⟩ EpA
      · refine GN ?_
        refine G_region ?_
        refine GQ (ev_move rfl) ?_
        refine GQ (ev_move rfl) ?_
        (first | refine GQ (ev_nilCheck rfl) ?_ | refine GQ (ev_nilCheckF (by simp) rfl) ?_)
        refine GQ (ev_fieldAddr rfl) ?_
        refine GQ (ev_load rfl LdA) ?_
        refine GQ (ev_len rfl) ?_
        (first | refine GQ (ev_lssN rfl rfl) ?_ | refine GQ (ev_lss rfl rfl) ?_)
        refine GO_nil ?_
        refine GN ?_
        refine G_cond_f rfl (decide_eq_false (by omega)) ?_
        refine G_heap (L' := rfF r most S :: blk b3 28 [.int .i64 p.id, .int .i64 p.x, .int .i64 p.y] :: F :: L) (by (repeat first | exact en_refl | refine en_rf x rfl rfl rfl rfl hx ?_ | (apply en_blk; focus ((repeat' first | exact Pick.here | apply Pick.skip | apply Pick.app); done); focus rfl) | (apply en_own; focus ((repeat' first | exact Pick.here | apply Pick.skip | apply Pick.app); done); focus rfl) | (apply en_pick; focus ((repeat' first | exact Pick.here | apply Pick.skip | apply Pick.app); done)) | apply en_drop | apply en_app) <;> fail) ?_
        refine GN ?_
        refine G_region ?_
        refine GQ (ev_move rfl) ?_
        refine GQ (ev_loadN rfl LnA) ?_
        refine GE (eff_call rfl (hput _)) ?_; rintro _ _ ⟨rfl, rfl⟩
        refine GO_nil ?_
        refine GN ?_
        refine G_region ?_
        refine GQ (ev_assign rfl) ?_
        refine GO_nil ?_
        refine GN ?_
        exact G_ret (L' := rfF r most (S.put p) :: L) rfl (.tmp rfl .nil) EpA ⟨by rw [h0]; rfl, rfl⟩
  · rw [if_neg h0]
    refine GN ?_
    refine G_cond_t rfl (decide_eq_true h0) ?_
    refine GN ?_
    refine G_region ?_
    refine GQ (ev_move rfl) ?_
    refine GQ (ev_assign rfl) ?_
    refine GO_nil ?_
    refine GN ?_
    exact G_ret (L' := rfF r most S :: L) rfl (.tmp rfl .nil) (by (repeat first | exact en_refl | refine en_rf x rfl rfl rfl rfl hx ?_ | (apply en_blk; focus ((repeat' first | exact Pick.here | apply Pick.skip | apply Pick.app); done); focus rfl) | (apply en_own; focus ((repeat' first | exact Pick.here | apply Pick.skip | apply Pick.app); done); focus rfl) | (apply en_pick; focus ((repeat' first | exact Pick.here | apply Pick.skip | apply Pick.app); done)) | apply en_drop | apply en_app) <;> fail) ⟨rfl, rfl⟩
theorem rDelete_ctr (r : Nat) (most : Int) (S : LgS) (p : Pt) (m : Nat) (L : List HP) (ok : LgOk S m) (hm : m ≤ 300) :
    Ctr Tryz.prog 43 #[.pointer (some ⟨r, 0, none⟩), p.v] (rfF r most S :: L) fun v L' => v = .int .i64 (delC S.live p) ∧ L' = rfF r most (S.del p) :: L := by
  refine Ctr.rf fun x hx => ?_
  have hll := ok.live_len
  have htot := ok.tot
  have hbt := ok.bt
  have hl10 : S.ls.length ≤ 10 := lv_le9 ok.lv (by omega)
  have hlen := hx.len
  have hql : ∀ X, Rd (own 38 1 x.A x.qs.length x.c (flat x.qs) :: X) x.A x.qs.length x.qs := fun X => Rc.own (flat_length _) hx.A
  have hin : ∀ X, ∀ q ∈ x.qs, q.at_ (pk x.N :: X) := fun X q hq => (hx.at_ q hq).pk
  have hdd : ∀ X, Rd (pk x.N :: X) x.D S.d.length S.d := fun X => Rd.pk hx.dd
  have hlive := fun M h1 h2 h3 h4 => KLive_ctr (r := r) (most := most) (L := M) hx h1 h2 h3 h4 ok.nd (by omega) (by omega) (by omega)
  have xc1 := hx.c1
  have xc2 := hx.c2
  unfold maxLen at xc2
  unfold LgS.del delC
  refine Ctr_of (fn := Tryz.f43) (n := 56) Tryz.func43 rfl rfl rfl ?_
  intro g F
  refine GN ?_
  refine G_region ?_
  refine GE (eff_box rfl) ?_; rintro _ _ ⟨b3, rfl, rfl⟩
  refine GQ (ev_assign rfl) ?_
  refine GO_nil ?_
  refine GN ?_
  refine G_region ?_
  refine GQ (ev_move rfl) ?_
  refine GE (eff_call rfl (hlive _ (by repeat' first | exact LdN.blk rfl | apply LdN.skip) (by repeat' first | exact hql _ | apply Rd.skip) (fun q hq => by repeat' first | exact hin _ q hq | apply QS.at_.skip) (by repeat' first | exact hdd _ | apply Rd.skip))) ?_; rintro _ _ ⟨bl, cl, rfl, k1, k2, rfl⟩
  refine GQ (ev_assign rfl) ?_
  refine GO_nil ?_
  have hIn := fun M h => rIn_ctr (some ⟨bl, 0, none⟩) S.live.length cl S.live p M h (by omega)
  refine GN ?_
  refine G_region ?_
  refine GQ (ev_move rfl) ?_
  refine GQ (ev_loadN rfl LnA) ?_
  refine GE (eff_call rfl (hIn _ (by repeat' first | exact Rc.own (flat_length _) (fun _ ↦ ⟨bl, rfl⟩) | apply Rd.skip))) ?_; rintro _ _ ⟨rfl, rfl⟩
  refine GQ (ev_not rfl) ?_
  refine GO_nil ?_
  by_cases hp : p ∈ S.live
  · rw [if_pos hp, if_pos hp]
    have hpos := List.length_pos_of_mem hp
    have h1 := LgS.mem_live.1 hp
    have hml : (S.mark p).live.length + (S.mark p).d.length = (S.mark p).ls.flatten.length := by
      refine live_len (S := S.mark p) ok.nd ?_ ?_
      · show (S.d ++ [p]).Nodup
        rw [(List.perm_append_singleton p S.d).nodup_iff]
        exact List.nodup_cons.2 ⟨h1.2, ok.dn⟩
      · intro q hq
        rcases List.mem_append.1 (show q ∈ S.d ++ [p] from hq) with h2 | h2
        · exact ok.ds q h2
        · have : q = p := by simpa using h2
          rw [this]; exact h1.1
    have hmd : (S.mark p).d.length = S.d.length + 1 := by show (S.d ++ [p]).length = _; simp
    have hmf : (S.mark p).ls.flatten.length = S.ls.flatten.length := rfl
    refine GN ?_
    refine G_cond_f rfl (by simp [hp]) ?_
    refine GN ?_
    refine GN ?_
    refine G_draw (.q 0 (.q 2 (.q 3 (.q 4 (.q 5 (.q 7 (.br 1 (.br 6 (.e 8 (.e 9 (.q 10 (.q 11 (.e 12 .nil))))) 8 (.e 6 (.e 9 (.q 10 (.q 11 (.e 12 .nil)))))) 8 (.e 1 (.e 6 (.e 9 (.q 10 (.q 11 (.e 12 .nil))))))))))))) (by kernel_rfl) (by kernel_rfl) ?_
    refine RM rfl (ev_move rfl) ?_
    refine RM rfl (ev_move rfl) ?_
    (first | refine RM rfl (ev_nilCheck rfl) ?_ | refine RM rfl (ev_nilCheckF (by simp) rfl) ?_)
    refine RM rfl (ev_fieldAddr rfl) ?_
    refine RQ rfl (ev_load rfl LdA) ?_
    refine RQ rfl (ev_loadN rfl LnA) ?_
    refine RS_br ?x85_0 ?x85_1
    case' x85_1 =>
      refine RE_eff rfl rfl rfl (eff_buildSlice1 (by rfl) rfl rfl) ?_; rintro _ _ ⟨b21, rfl, rfl⟩; refine ⟨_, ExA, fun _ s => s, ?_⟩
      refine RS_e (RE_eff rfl rfl rfl eff_buildSlice0 ?_); rintro _ _ ⟨b14, rfl, rfl⟩; refine ⟨_, ExA, fun _ s => s, ?_⟩
      refine RS_e (RE_eff rfl rfl rfl (eff_append rfl rfl PkA ((by repeat' first | exact hdd _ | apply Rc.skip)) ((flat_one _)) (by rfl) (by decide) NgA NgA) ?_); rintro _ _ ⟨A19, c19, rfl, hc19, hm19, hn19, rfl⟩; refine ⟨_, ExA, fun _ s => s, ?_⟩
      refine RS_e (RE_eff rfl rfl rfl (eff_append rfl rfl PkA (by repeat' first | exact Rc.blk rfl | assumption | apply Rc.skip) (one_all rfl) (by rfl) (by decide) NgA NgA) ?_); rintro _ _ ⟨A22, c22, rfl, hc22, hm22, hn22, rfl⟩; refine ⟨_, ExA, fun _ s => s, ?_⟩
      (first | refine RM rfl (ev_nilCheck rfl) ?_ | refine RM rfl (ev_nilCheckF (by simp) rfl) ?_)
      refine RM rfl (ev_fieldAddr rfl) ?_
      refine RS_e (RE_cmp (by kernel_rfl) rfl rfl rfl (eff_store rfl rfl rfl UpA) ?_); rintro _ _ ⟨rfl, rfl⟩
      refine RS_nil ?_
    case' x85_0 =>
      refine RE_eff rfl rfl rfl eff_buildSlice0 ?_; rintro _ _ ⟨b14, rfl, rfl⟩; refine ⟨_, ExA, fun _ s => s, ?_⟩
      refine RS_br ?x86_0 ?x86_1
      case' x86_1 =>
        refine RE_eff rfl rfl rfl (eff_buildSlice1 (by rfl) rfl rfl) ?_; rintro _ _ ⟨b21, rfl, rfl⟩; refine ⟨_, ExA, fun _ s => s, ?_⟩
        refine RS_e (RE_eff rfl rfl rfl (eff_append rfl rfl PkA ((by repeat' first | exact hdd _ | apply Rc.skip)) ((flat_one _)) (by rfl) (by decide) NgA NgA) ?_); rintro _ _ ⟨A19, c19, rfl, hc19, hm19, hn19, rfl⟩; refine ⟨_, ExA, fun _ s => s, ?_⟩
        refine RS_e (RE_eff rfl rfl rfl (eff_append rfl rfl PkA (by repeat' first | exact Rc.blk rfl | assumption | apply Rc.skip) (one_all rfl) (by rfl) (by decide) NgA NgA) ?_); rintro _ _ ⟨A22, c22, rfl, hc22, hm22, hn22, rfl⟩; refine ⟨_, ExA, fun _ s => s, ?_⟩
        (first | refine RM rfl (ev_nilCheck rfl) ?_ | refine RM rfl (ev_nilCheckF (by simp) rfl) ?_)
        refine RM rfl (ev_fieldAddr rfl) ?_
        refine RS_e (RE_cmp (by kernel_rfl) rfl rfl rfl (eff_store rfl rfl rfl UpA) ?_); rintro _ _ ⟨rfl, rfl⟩
        refine RS_nil ?_
      case' x86_0 =>
        refine RE_eff rfl rfl rfl (eff_append rfl rfl PkA ((by repeat' first | exact hdd _ | apply Rc.skip)) ((flat_one _)) (by rfl) (by decide) NgA NgA) ?_; rintro _ _ ⟨A19, c19, rfl, hc19, hm19, hn19, rfl⟩; refine ⟨_, ExA, fun _ s => s, ?_⟩
        refine RS_e (RE_eff rfl rfl rfl (eff_buildSlice1 (by rfl) rfl rfl) ?_); rintro _ _ ⟨b21, rfl, rfl⟩; refine ⟨_, ExA, fun _ s => s, ?_⟩
        refine RS_e (RE_eff rfl rfl rfl (eff_append rfl rfl PkA (by repeat' first | exact Rc.blk rfl | assumption | apply Rc.skip) (one_all rfl) (by rfl) (by decide) NgA NgA) ?_); rintro _ _ ⟨A22, c22, rfl, hc22, hm22, hn22, rfl⟩; refine ⟨_, ExA, fun _ s => s, ?_⟩
        (first | refine RM rfl (ev_nilCheck rfl) ?_ | refine RM rfl (ev_nilCheckF (by simp) rfl) ?_)
        refine RM rfl (ev_fieldAddr rfl) ?_
        refine RS_e (RE_cmp (by kernel_rfl) rfl rfl rfl (eff_store rfl rfl rfl UpA) ?_); rintro _ _ ⟨rfl, rfl⟩
        refine RS_nil ?_
    all_goals
      have nn : 0 + S.d.length + 1 = (S.d ++ [p]).length := by simp
      rw [nn] at hc22 hn22
      rw [nn]
      have hI : RfI ⟨x.A, x.c, x.qs, A22, c22, own 28 3 A22 (S.d ++ [p]).length c22 (flat (S.d ++ [p])) :: x.N⟩ (S.mark p) := ⟨hx.qs, fun q hq => (hx.at_ q hq).skip, Rc.own (flat_length _) hn22, hc22, hm22, hx.A⟩
      refine G_heap (L' := blk r 40 (rfC x.A x.qs.length x.c A22 (S.mark p).d.length c22 most (S.mark p).bu) :: own 38 1 x.A x.qs.length x.c (flat x.qs) :: pk (own 28 3 A22 (S.d ++ [p]).length c22 (flat (S.d ++ [p])) :: x.N) :: own 28 3 (some ⟨bl, 0, none⟩) S.live.length cl (flat S.live) :: blk b3 28 [.int .i64 p.id, .int .i64 p.x, .int .i64 p.y] :: F :: L) (en_blk PkA rfl (en_pick PkA (en_pk1 (en_own PkA (by rw [flat_append]; rfl) EpA)))) ?_
      generalize own 28 3 A22 (S.d ++ [p]).length c22 (flat (S.d ++ [p])) :: x.N = N2 at *
      have hin2 : ∀ X, ∀ q ∈ x.qs, q.at_ (pk N2 :: X) := fun X q hq => (hI.at_ q hq).pk
      have hdd2 : ∀ X, Rd (pk N2 :: X) A22 (S.mark p).d.length (S.mark p).d := fun X => Rd.pk hI.dd
      have hlive2 := fun M h1 h2 h3 h4 => KLive_ctr (r := r) (most := most) (L := M) hI h1 h2 h3 h4 ok.nd (by show S.ls.length ≤ _; omega) (by show S.ls.flatten.length ≤ _; omega) (by omega)
      have hbm : (S.mark p).bu = S.bu := rfl
      by_cases hc : (S.mark p).d.length ≤ S.live.length - 1
      · rw [if_pos hc]
        refine GN ?_
        refine G_region ?_
        refine GQ (ev_move rfl) ?_
        (first | refine GQ (ev_nilCheck rfl) ?_ | refine GQ (ev_nilCheckF (by simp) rfl) ?_)
        refine GQ (ev_fieldAddr rfl) ?_
        refine GQ (ev_load rfl LdA) ?_
        refine GQ (ev_len rfl) ?_
        refine GQ (ev_move rfl) ?_
        refine GQ (ev_len rfl) ?_
        (first | refine GQ (ev_subN (q := 1) rfl rfl NgA) ?_ | refine GQ (ev_sub rfl rfl NgA) ?_)
        refine GQ (ev_leq rfl rfl) ?_
        refine GO_nil ?_
        refine GN ?_
        refine G_cond_t rfl (decide_eq_true (by omega)) ?_
        refine GN ?_
        refine G_region ?_
        refine GQ (ev_assign rfl) ?_
        refine GO_nil ?_
        refine GN ?_
        exact G_ret (L' := rfF r most (S.mark p) :: L) rfl (.tmp rfl .nil) (by (repeat first | exact en_refl | refine en_rf ⟨x.A, x.c, x.qs, A22, c22, N2⟩ rfl rfl rfl rfl hI ?_ | (apply en_blk; focus ((repeat' first | exact Pick.here | apply Pick.skip | apply Pick.app); done); focus rfl) | (apply en_own; focus ((repeat' first | exact Pick.here | apply Pick.skip | apply Pick.app); done); focus rfl) | (apply en_pick; focus ((repeat' first | exact Pick.here | apply Pick.skip | apply Pick.app); done)) | apply en_drop | apply en_app) <;> fail) ⟨rfl, rfl⟩
      · rw [if_neg hc]
        unfold LgS.anew
        have hln : (S.mark p).live.Nodup := (srtO_perm _).nodup_iff.2 (ok.nd.filter _)
        have hlg : ∀ q ∈ (S.mark p).live, goodP q = true := fun q hq => ok.gd q (LgS.mem_live.1 hq).1
        have hll2 : (S.mark p).live.length ≤ m := by omega
        generalize (S.mark p).live = l at *
        refine GN ?_
        refine G_region ?_
        refine GQ (ev_move rfl) ?_
        (first | refine GQ (ev_nilCheck rfl) ?_ | refine GQ (ev_nilCheckF (by simp) rfl) ?_)
        refine GQ (ev_fieldAddr rfl) ?_
        refine GQ (ev_load rfl LdA) ?_
        refine GQ (ev_len rfl) ?_
        refine GQ (ev_move rfl) ?_
        refine GQ (ev_len rfl) ?_
        (first | refine GQ (ev_subN (q := 1) rfl rfl NgA) ?_ | refine GQ (ev_sub rfl rfl NgA) ?_)
        refine GQ (ev_leq rfl rfl) ?_
        refine GO_nil ?_
        refine GN ?_
        refine G_cond_f rfl (decide_eq_false (by omega)) ?_
        refine GN ?_
        refine GN ?_
        refine G_region ?_
        refine GQ (ev_move rfl) ?_
        refine GE (eff_call rfl (hlive2 _ (by repeat' first | exact LdN.blk rfl | apply LdN.skip) (by repeat' first | exact hql _ | apply Rd.skip) (fun q hq ↦ by repeat' first | exact hin2 _ q hq | apply QS.at_.skip) (by repeat' first | exact hdd2 _ | apply Rd.skip))) ?_; rintro _ _ ⟨bm, cm, rfl, k3, k4, rfl⟩
        refine GQ (ev_assign rfl) ?_
        refine GO_nil ?_
        rw [hbm]
        refine GN ?_
        refine G_region ?_
        refine GQ (ev_move rfl) ?_
        refine GQ (ev_move rfl) ?_
        refine GE eff_buildSlice0 ?_; rintro _ _ ⟨b38, rfl, rfl⟩
        refine GE eff_buildSlice0 ?_; rintro _ _ ⟨b39, rfl, rfl⟩
        (first | refine GQ (ev_nilCheck rfl) ?_ | refine GQ (ev_nilCheckF (by simp) rfl) ?_)
        refine GQ (ev_fieldAddr rfl) ?_
        refine GE (eff_store rfl rfl rfl UpA) ?_; rintro _ _ ⟨rfl, rfl⟩
        (first | refine GQ (ev_nilCheck rfl) ?_ | refine GQ (ev_nilCheckF (by simp) rfl) ?_)
        refine GQ (ev_fieldAddr rfl) ?_
        refine GE (eff_store rfl rfl rfl UpA) ?_; rintro _ _ ⟨rfl, rfl⟩
        refine GO_nil ?_
        have hz : RfI ⟨some ⟨b38, 0, none⟩, 0, [], some ⟨b39, 0, none⟩, 0, []⟩ ⟨[], [], S.bu⟩ := ⟨rfl, by simp, Rd.nil _ _, Nat.le_refl _, Nat.zero_le _, fun h => absurd h (Nat.lt_irrefl 0)⟩
        refine G_heap (L' := rfF r most ⟨[], [], S.bu⟩ :: own 28 3 (some ⟨bm, 0, none⟩) l.length cm (flat l) :: blk b3 28 [.int .i64 p.id, .int .i64 p.x, .int .i64 p.y] :: F :: L) (by (repeat first | exact en_refl | refine en_rf ⟨some ⟨b38, 0, none⟩, 0, [], some ⟨b39, 0, none⟩, 0, []⟩ rfl rfl rfl rfl hz ?_ | apply en_pack (K := []) | (apply en_blk; focus ((repeat' first | exact Pick.here | apply Pick.skip | apply Pick.app); done); focus rfl) | (apply en_own; focus ((repeat' first | exact Pick.here | apply Pick.skip | apply Pick.app); done); focus rfl) | (apply en_pick; focus ((repeat' first | exact Pick.here | apply Pick.skip | apply Pick.app); done)) | apply en_drop | apply en_app) <;> fail) ?_
        refine GN ?_
        refine G_region ?_
        refine GQ (ev_assign rfl) ?_
        refine GO_nil ?_
        refine GN ?_
        refine G_loop (ι := Nat) (fun i => [(0, .pointer (some ⟨r, 0, none⟩)), (3, .pointer (some ⟨b3, 0, none⟩)), (5, .slice (some ⟨bm, 0, none⟩) l.length cm), (6, .int .i64 (i : Nat))]) (fun i => rfF r most ((l.take i).foldl LgS.put ⟨[], [], S.bu⟩) :: own 28 3 (some ⟨bm, 0, none⟩) l.length cm (flat l) :: blk b3 28 [.int .i64 p.id, .int .i64 p.x, .int .i64 p.y] :: F :: L) (fun i => i ≤ l.length) (fun i => l.length - i) 0 (Nat.zero_le _) ⟨rfl, rfl, rfl, rfl, trivial⟩ EnA ?_
        intro i hi
        have hi : i ≤ l.length := hi
        by_cases d1 : i < l.length
        · have g1 : l[i]? = some l[i] := List.getElem?_eq_getElem d1
          have s1 : l.take (i + 1) = l.take i ++ [l[i]] := List.take_succ_eq_append_getElem d1
          have z1 : ∀ X, LdN (own 28 3 (some ⟨bm, 0, none⟩) l.length cm (flat l) :: X) bm (0 + i * 3) 3 [.int .i64 l[i].id, .int .i64 l[i].x, .int .i64 l[i].y] := fun X => ld_ownP rfl g1 X
          have htk : (l.take i).Sublist l := List.take_sublist _ _
          have hf := fold_put (l.take i) ⟨[], [], S.bu⟩ m trivial (by simpa using htk.nodup hln) (fun q h => hlg q (htk.subset (by simpa using h))) rfl (by simp; omega) (.inl rfl)
          have sf : (l.take (i + 1)).foldl LgS.put ⟨[], [], S.bu⟩ = ((l.take i).foldl LgS.put ⟨[], [], S.bu⟩).put l[i] := by rw [s1, List.foldl_append]; rfl
          have htl : (l.take i).length = i := by rw [List.length_take]; omega
          rw [htl] at hf
          generalize (l.take i).foldl LgS.put ⟨[], [], S.bu⟩ = S1 at *
          obtain ⟨q1, q2, q3, q4, q5⟩ := hf
          simp only [List.flatten_nil, List.nil_append] at q2
          have q6 := q2.length_eq
          have q7 := lv_le9 q4 (by omega)
          have q8 : m * i ≤ 300 * 300 := Nat.mul_le_mul hm (by omega)
          generalize l[i] = u at *
          have hput := fun M => rPut_ctr r most S1 u M (by omega) (by omega) (by simp only at q5; omega)
          refine GN ?_
          refine G_region ?_
          refine GQ (ev_move rfl) ?_
          refine GQ (ev_move rfl) ?_
          refine GQ (ev_len rfl) ?_
          (first | refine GQ (ev_lssN rfl rfl) ?_ | refine GQ (ev_lss rfl rfl) ?_)
          refine GO_nil ?_
          refine GN ?_
          refine G_cond_t rfl (decide_eq_true (by omega)) ?_
          refine GN ?_
          refine G_region ?_
          refine GQ (ev_move rfl) ?_
          refine GQ (ev_move rfl) ?_
          refine GQ (ev_move rfl) ?_
          (first | refine GQ (ev_indexAddrN rfl rfl NgA) ?_ | refine GQ (ev_indexAddr rfl rfl NgA NgA) ?_)
          refine GQ (ev_loadN rfl (by repeat' first | exact z1 _ | apply LdN.skip)) ?_
          refine GE (eff_call rfl (Ctr.pick PkA (hput _))) ?_; rintro _ _ ⟨rfl, rfl⟩
          refine GO_nil ?_
          refine GN ?_
          refine G_region ?_
          refine GQ (ev_move rfl) ?_
          (first | refine GQ (ev_addN (q := 1) rfl rfl NgA) ?_ | refine GQ (ev_add rfl rfl NgA) ?_)
          refine GQ (ev_assign rfl) ?_
          refine GO_nil ?_
          refine GN ?_
          refine G_round (i + 1) (by omega) (by omega) ⟨rfl, rfl, rfl, rfl, trivial⟩ ?_
          rw [sf]
          exact EpA
        · have e : i = l.length := by omega
          subst e
          rw [List.take_length]
          refine GN ?_
          refine G_region ?_
          refine GQ (ev_move rfl) ?_
          refine GQ (ev_move rfl) ?_
          refine GQ (ev_len rfl) ?_
          (first | refine GQ (ev_lssN rfl rfl) ?_ | refine GQ (ev_lss rfl rfl) ?_)
          refine GO_nil ?_
          refine GN ?_
          refine G_cond_f rfl (decide_eq_false (by omega)) ?_
          refine GN ?_
          refine GN ?_
          refine G_region ?_
          refine GQ (ev_assign rfl) ?_
          refine GO_nil ?_
          refine GN ?_
          exact G_ret (L' := rfF r most (l.foldl LgS.put ⟨[], [], S.bu⟩) :: L) rfl (.tmp rfl .nil) EpA ⟨rfl, rfl⟩
  · rw [if_neg hp, if_neg hp]
    refine GN ?_
    refine G_cond_t rfl (by simp [hp]) ?_
    refine GN ?_
    refine G_region ?_
    refine GQ (ev_assign rfl) ?_
    refine GO_nil ?_
    refine GN ?_
    exact G_ret (L' := rfF r most S :: L) rfl (.tmp rfl .nil) (by (repeat first | exact en_refl | refine en_rf x rfl rfl rfl rfl hx ?_ | (apply en_blk; focus ((repeat' first | exact Pick.here | apply Pick.skip | apply Pick.app); done); focus rfl) | (apply en_own; focus ((repeat' first | exact Pick.here | apply Pick.skip | apply Pick.app); done); focus rfl) | (apply en_pick; focus ((repeat' first | exact Pick.here | apply Pick.skip | apply Pick.app); done)) | apply en_drop | apply en_app) <;> fail) ⟨rfl, rfl⟩
end Go.Proofs.YtkoncepjfgnjlaaGreat
/- Points in several trees: put, Insert, anew, Delete of a whole set. -/
namespace Go.Proofs.YtkoncepjfgnjlaaGreat
attribute [local irreducible] sat
open Go.RowKit
set_option linter.unusedVariables false
set_option linter.unusedSimpArgs false
set_option maxRecDepth 100000

theorem lv_le {n m : Nat} (h : n = 0 ∨ 2 ^ (n - 1) ≤ m) (hm : m ≤ 600) : n ≤ 10 := by
  rcases h with h | h
  · omega
  · rcases Nat.lt_or_ge n 11 with h1 | h1
    · omega
    · have : 2 ^ 10 ≤ 2 ^ (n - 1) := Nat.pow_le_pow_right (by decide) (by omega)
      omega
theorem sat_left {N M : List HP} {h : Hm} (s : sat (N ++ M) h) : sat N h := by
  obtain ⟨h1, h2, d, s1, s2, n, l⟩ := s.split
  exact n.up s1
theorem en_two {N M L : List HP} {h : Hm} (s : sat (pk N :: pk M :: L) h) : sat (pk (N ++ M) :: L) h := by
  have h1 : sat (N ++ (pk M :: L)) h := sat.part s
  have h2 : sat (pk M :: (N ++ L)) h := h1.perm List.perm_middle
  have h3 : sat (M ++ (N ++ L)) h := sat.part h2
  have h4 : sat ((N ++ M) ++ L) h := h3.perm (by
    rw [← List.append_assoc]
    exact (List.perm_append_comm).append_right L)
  exact sat.join h4
theorem en_pk0 {L M : List HP} (f : ∀ h, sat L h → sat M h) : ∀ h, sat L h → sat (pk [] :: M) h := en_pack (K := []) f
theorem oat_none {L : List HP} : oat L none := fun x h => by cases h
theorem newC_ok {p : Pt} {S : LgS} {ts : List (Option RTr)} (hc : Cor ts S.ls) (hf : p ∉ S.ls.flatten) (hg : goodP p = true) (nd : S.ls.flatten.Nodup) (gd : ∀ q ∈ S.ls.flatten, goodP q = true) (k : Nat) : newC (gth p (ts.take k)) = 0 := by
  have h1 : ((ts.take k).flatMap opts).Sublist (ts.flatMap opts) := by
    conv => rhs; rw [← List.take_append_drop k ts]
    rw [List.flatMap_append]; exact List.sublist_append_left _ _
  have h2 := hc.flat
  have nd2 : (p :: (ts.take k).flatMap opts).Nodup := List.nodup_cons.2 ⟨fun h => hf (h2.mem_iff.1 (h1.subset h)), h1.nodup (h2.nodup_iff.2 nd)⟩
  have hp : (gth p (ts.take k)).Perm (p :: (ts.take k).flatMap opts) := srtO_perm _
  unfold newC
  rw [if_pos, if_pos (hp.nodup_iff.2 nd2)]
  intro q hq
  rcases List.mem_cons.1 (hp.mem_iff.1 hq) with rfl | h
  · exact hg
  · exact gd q (h2.mem_iff.1 (h1.subset h))
theorem lgPut_ctr (s : Nat) (most : Int) (S : LgS) (p : Pt) (L : List HP) (hf : p ∉ S.ls.flatten) (hg : goodP p = true) (nd : S.ls.flatten.Nodup) (gd : ∀ q ∈ S.ls.flatten, goodP q = true) (hl : S.ls.length ≤ 50) (ht : S.ls.flatten.length ≤ 1000) (hb : S.bu ≤ 1000000000) :
    Ctr Tryz.prog 37 #[.pointer (some ⟨s, 0, none⟩), p.v] (lgF s most S :: L) fun v L' => v = .tuple #[] ∧ L' = lgF s most (S.put p) :: L := by
  refine Ctr.lg fun x hx => ?_
  have h1 := hx.cor.len
  have h2 := hx.cor.flat.length_eq
  refine (lgput_ctr s x.b x.ts.length x.c x.A most S.bu S.d.length p x.ts x.M (pk x.N :: L) hx.A rfl hx.ats (by omega) (by omega) hx.c1 hx.c2 (newC_ok hx.cor hf hg nd gd) ⟨by omega, by omega⟩).post' ?_
  rintro v L' hm ⟨A', c', k, r, N, rfl, hp, hA', rfl⟩ hs
  obtain ⟨e1, e2⟩ := hx.cor.put hp
  refine ⟨_, ⟨rfl, rfl⟩, ?_⟩
  have hI : LgI ⟨A', c', x.b, putT x.ts k r, putM p false x.M, N ++ x.N⟩ (S.put p) := ⟨e1, fun o ho => ?_, ?_, fun _ => hA'⟩
  · refine en_lg ⟨A', c', x.b, putT x.ts k r, putM p false x.M, N ++ x.N⟩ rfl rfl (built := (S.bu : Int) + (r.l.length : Nat)) ?_ rfl hI (fun h s => ?_) hm hs
    · show ((S.bu + putN [p] S.ls : Nat) : Int) = _
      rw [e2]; omega
    · exact sat.cons_mono (fun _ s => sat.cons_mono (fun _ s => sat.cons_mono (fun _ s => en_two s) s) s) s
  · rcases List.mem_append.1 (show o ∈ List.replicate k none ++ some r :: x.ts.drop (k + 1) from ho) with h | h
    · rw [List.eq_of_mem_replicate h]; exact oat_none
    · rcases List.mem_cons.1 h with rfl | h
      · intro y hy
        cases hy
        exact TR.mono (fun _ s => sat_left s) hp.t
      · exact (hx.at_ o (List.mem_of_mem_drop h)).mono (fun _ s => sat_left (s.perm List.perm_append_comm))
  · exact hx.mp.new hf (putR_flat [p] S.ls)
section
variable {x : LgX} {S : LgS} {s : Nat} {most : Int} {L : List HP} (hx : LgJ x S) (h : LdN L s 0 5 (lsC x.A x.ts.length x.c x.b (S.d.length : Nat) most (S.bu : Nat))) (hM : Mp L x.b x.M)
include hx h hM
theorem JLive_ctr (hl : S.live.length + S.d.length = S.ls.flatten.length) (hb : S.ls.flatten.length ≤ 100000) : Ctr Tryz.prog 35 #[.pointer (some ⟨s, 0, none⟩)] L fun v L' => v = .int .i64 (S.live.length : Nat) ∧ L' = L := by
  have e := hx.mp.len
  have := lgLive_ctr h hM (by omega) (by omega)
  rwa [show x.M.length - S.d.length = S.live.length by omega] at this
theorem JHas_ctr (p : Pt) (nd : S.ls.flatten.Nodup) : Ctr Tryz.prog 34 #[.pointer (some ⟨s, 0, none⟩), p.v] L fun v L' => v = .bool (decide (p ∈ S.live)) ∧ L' = L := by
  have := lghas_ctr p h hM
  rwa [show decide (getM p x.M = some false) = decide (p ∈ S.live) from decide_eq_decide.2 ((hx.mp.get_false nd).trans LgS.mem_live.symm)] at this
theorem JKnown_ctr (p : Pt) (nd : S.ls.flatten.Nodup) : Ctr Tryz.prog 36 #[.pointer (some ⟨s, 0, none⟩), p.v] L fun v L' => v = .tuple #[.bool (decide (p ∈ S.d)), .bool (decide (p ∈ S.ls.flatten))] ∧ L' = L := by
  have := lgKnown_ctr p h hM
  have e1 : (getM p x.M).getD false = decide (p ∈ S.d) := by
    have h1 := hx.mp.get_true nd (p := p)
    cases hg : getM p x.M with
    | none =>
      have : p ∉ S.d := fun h => by have := h1.2 h; rw [hg] at this; cases this
      simp [this]
    | some b => cases b with
      | false =>
        have : p ∉ S.d := fun h => by have := h1.2 h; rw [hg] at this; cases this
        simp [this]
      | true => simp [h1.1 hg]
  have e2 : (getM p x.M).isSome = decide (p ∈ S.ls.flatten) := by
    have h1 := hx.mp.get_some (p := p)
    by_cases h2 : p ∈ S.ls.flatten
    · rw [decide_eq_true h2]; exact h1.2 h2
    · rw [decide_eq_false h2]
      cases hg : (getM p x.M).isSome with
      | false => rfl
      | true => exact absurd (h1.1 hg) h2
  rwa [e1, e2] at this
end
theorem LgOk.ll {S : LgS} {m : Nat} (h : LgOk S m) (hm : m ≤ 600) : S.ls.length ≤ 10 := lv_le h.lv hm
theorem LgInsert_ctr (s : Nat) (most : Int) (S : LgS) (p : Pt) (m : Nat) (L : List HP) (ok : LgOk S m) (hm : m ≤ 300) :
    Ctr Tryz.prog 9 #[.pointer (some ⟨s, 0, none⟩), p.v] (lgF s most S :: L) fun v L' => v = .int .i64 (insC most S.live p) ∧ L' = lgF s most (S.ins most p) :: L := by
  refine Ctr.lg fun x hx => ?_
  have k0 := KGood_ctr p
  have hll := ok.live_len
  have htot := ok.tot
  have hbt := ok.bt
  have hl10 := ok.ll (by omega)
  have hlive := fun M h1 h2 => JLive_ctr (s := s) (most := most) (L := M) hx h1 h2 hll (by omega)
  have hhas := fun M h1 h2 => JHas_ctr (s := s) (most := most) (L := M) hx h1 h2 p ok.nd
  have hkn := fun M h1 h2 => JKnown_ctr (s := s) (most := most) (L := M) hx h1 h2 p ok.nd
  have hpl : p ∈ S.live ↔ p ∈ S.ls.flatten ∧ p ∉ S.d := LgS.mem_live
  unfold LgS.ins insC
  cases hg : goodP p with
  | false =>
    rw [hg] at k0
    rw [if_pos rfl, if_neg (by decide)]
    refine Ctr_of (fn := Tryz.f9) (n := 49) Tryz.func9 rfl rfl rfl ?_
    intro g F
    refine GN ?_
    refine G_region ?_
    refine GE (eff_box rfl) ?_; rintro _ _ ⟨b3, rfl, rfl⟩
    refine GQ (ev_assign rfl) ?_
    refine GO_nil ?_
    refine GN ?_
    refine GN ?_
    refine G_region ?_
    refine GQ (ev_move rfl) ?_
    (first | refine GQ (ev_eqlNil rfl rfl) ?_ | refine GQ (ev_eqlPtr rfl rfl) ?_)
    refine GQ (ev_move rfl) ?_
    refine GO_yes rfl rfl rfl rfl ?_
    refine GQ (ev_loadN rfl LnA) ?_
    refine GO_yes rfl rfl rfl rfl ?_
    refine GE (eff_call rfl (k0 _)) ?_; rintro _ _ ⟨rfl, rfl⟩
    refine GO_yes rfl rfl rfl rfl ?_
    refine GQ (ev_not rfl) ?_
    refine GQ (ev_pick_f rfl rfl rfl) ?_
    refine GQ (ev_assign rfl) ?_
    refine GO_nil ?_
    refine GN ?_
    refine G_cond_t rfl rfl ?_
    refine GN ?_
    refine G_region ?_
    refine GQ (ev_assign rfl) ?_
    refine GO_nil ?_
    refine GN ?_
    exact G_ret (L' := lgF s most S :: L) rfl (.tmp rfl .nil) (by (repeat first | exact en_refl | refine en_lg x rfl rfl rfl rfl hx.toLgI ?_ | (apply en_blk; focus ((repeat' first | exact Pick.here | apply Pick.skip | apply Pick.app); done); focus rfl) | (apply en_own; focus ((repeat' first | exact Pick.here | apply Pick.skip | apply Pick.app); done); focus rfl) | (apply en_pick; focus ((repeat' first | exact Pick.here | apply Pick.skip | apply Pick.app); done)) | apply en_drop | apply en_app) <;> fail) ⟨rfl, rfl⟩
  | true =>
    rw [hg] at k0
    rw [if_neg (by decide)]
    by_cases hp : p ∈ S.live
    · rw [decide_eq_true hp] at hhas
      rw [if_pos hp, if_neg (by decide)]
      refine Ctr_of (fn := Tryz.f9) (n := 49) Tryz.func9 rfl rfl rfl ?_
      intro g F
      refine GN ?_
      refine G_region ?_
      refine GE (eff_box rfl) ?_; rintro _ _ ⟨b3, rfl, rfl⟩
      refine GQ (ev_assign rfl) ?_
      refine GO_nil ?_
      refine GN ?_
      refine GN ?_
      refine G_region ?_
      refine GQ (ev_move rfl) ?_
      (first | refine GQ (ev_eqlNil rfl rfl) ?_ | refine GQ (ev_eqlPtr rfl rfl) ?_)
      refine GQ (ev_move rfl) ?_
      refine GO_yes rfl rfl rfl rfl ?_
      refine GQ (ev_loadN rfl LnA) ?_
      refine GO_yes rfl rfl rfl rfl ?_
      refine GE (eff_call rfl (k0 _)) ?_; rintro _ _ ⟨rfl, rfl⟩
      refine GO_yes rfl rfl rfl rfl ?_
      refine GQ (ev_not rfl) ?_
      refine GQ (ev_pick_f rfl rfl rfl) ?_
      refine GQ (ev_assign rfl) ?_
      refine GO_nil ?_
      refine GN ?_
      refine G_cond_f rfl rfl ?_
      refine GN ?_
      refine G_region ?_
      refine GQ (ev_move rfl) ?_
      refine GQ (ev_loadN rfl LnA) ?_
      refine GE (eff_call rfl (hhas _ LnA (by repeat' first | exact Mp.here | apply Mp.skip))) ?_; rintro _ _ ⟨rfl, rfl⟩
      refine GQ (ev_assign rfl) ?_
      refine GO_nil ?_
      refine GN ?_
      refine G_cond_t rfl rfl ?_
      refine GN ?_
      refine G_region ?_
      refine GQ (ev_assign rfl) ?_
      refine GO_nil ?_
      refine GN ?_
      exact G_ret (L' := lgF s most S :: L) rfl (.tmp rfl .nil) (by (repeat first | exact en_refl | refine en_lg x rfl rfl rfl rfl hx.toLgI ?_ | (apply en_blk; focus ((repeat' first | exact Pick.here | apply Pick.skip | apply Pick.app); done); focus rfl) | (apply en_own; focus ((repeat' first | exact Pick.here | apply Pick.skip | apply Pick.app); done); focus rfl) | (apply en_pick; focus ((repeat' first | exact Pick.here | apply Pick.skip | apply Pick.app); done)) | apply en_drop | apply en_app) <;> fail) ⟨rfl, rfl⟩
    · rw [decide_eq_false hp] at hhas
      rw [if_neg hp]
      by_cases hf : most ≤ S.live.length
      · rw [if_pos hf, if_neg (by decide)]
        refine Ctr_of (fn := Tryz.f9) (n := 49) Tryz.func9 rfl rfl rfl ?_
        intro g F
        refine GN ?_
        refine G_region ?_
        refine GE (eff_box rfl) ?_; rintro _ _ ⟨b3, rfl, rfl⟩
        refine GQ (ev_assign rfl) ?_
        refine GO_nil ?_
        refine GN ?_
        refine GN ?_
        refine G_region ?_
        refine GQ (ev_move rfl) ?_
        (first | refine GQ (ev_eqlNil rfl rfl) ?_ | refine GQ (ev_eqlPtr rfl rfl) ?_)
        refine GQ (ev_move rfl) ?_
        refine GO_yes rfl rfl rfl rfl ?_
        refine GQ (ev_loadN rfl LnA) ?_
        refine GO_yes rfl rfl rfl rfl ?_
        refine GE (eff_call rfl (k0 _)) ?_; rintro _ _ ⟨rfl, rfl⟩
        refine GO_yes rfl rfl rfl rfl ?_
        refine GQ (ev_not rfl) ?_
        refine GQ (ev_pick_f rfl rfl rfl) ?_
        refine GQ (ev_assign rfl) ?_
        refine GO_nil ?_
        refine GN ?_
        refine G_cond_f rfl rfl ?_
        refine GN ?_
        refine G_region ?_
        refine GQ (ev_move rfl) ?_
        refine GQ (ev_loadN rfl LnA) ?_
        refine GE (eff_call rfl (hhas _ LnA (by repeat' first | exact Mp.here | apply Mp.skip))) ?_; rintro _ _ ⟨rfl, rfl⟩
        refine GQ (ev_assign rfl) ?_
        refine GO_nil ?_
        refine GN ?_
        refine G_cond_f rfl rfl ?_
        refine GN ?_
        refine G_draw (.q 0 (.q 2 (.q 3 (.q 4 (.q 5 (.e 1 (.q 6 (.q 7 .nil)))))))) (by kernel_rfl) (by kernel_rfl) ?_
        refine RM rfl (ev_move rfl) ?_
        refine RM rfl (ev_move rfl) ?_
        (first | refine RM rfl (ev_nilCheck rfl) ?_ | refine RM rfl (ev_nilCheckF (by simp) rfl) ?_)
        refine RM rfl (ev_fieldAddr rfl) ?_
        refine RQ rfl (ev_load rfl LdA) ?_
        refine RS_e (RE_eff rfl rfl rfl (eff_call rfl (hlive _ LnA (by repeat' first | exact Mp.here | apply Mp.skip))) ?_); rintro _ _ ⟨rfl, rfl⟩; refine ⟨_, fun _ s => s, ExA, ?_⟩
        refine RM rfl (ev_geq rfl rfl) ?_
        refine RM rfl (ev_assign rfl) ?_
        refine RS_nil ?_
        refine GN ?_
        refine G_cond_t rfl (decide_eq_true hf) ?_
        refine GN ?_
        refine G_region ?_
        refine GQ (ev_assign rfl) ?_
        refine GO_nil ?_
        refine GN ?_
        exact G_ret (L' := lgF s most S :: L) rfl (.tmp rfl .nil) (by (repeat first | exact en_refl | refine en_lg x rfl rfl rfl rfl hx.toLgI ?_ | (apply en_blk; focus ((repeat' first | exact Pick.here | apply Pick.skip | apply Pick.app); done); focus rfl) | (apply en_own; focus ((repeat' first | exact Pick.here | apply Pick.skip | apply Pick.app); done); focus rfl) | (apply en_pick; focus ((repeat' first | exact Pick.here | apply Pick.skip | apply Pick.app); done)) | apply en_drop | apply en_app) <;> fail) ⟨rfl, rfl⟩
      · rw [if_neg hf, if_pos rfl]
        by_cases hd : p ∈ S.d
        · rw [if_pos hd]
          rw [decide_eq_true hd] at hkn
          have hback := hx.mp.back ((hx.mp.get_true ok.nd).2 hd)
          have hpos := List.length_pos_of_mem hd
          have hdl := List.length_erase_of_mem hd
          refine Ctr_of (fn := Tryz.f9) (n := 49) Tryz.func9 rfl rfl rfl ?_
          intro g F
          refine GN ?_
          refine G_region ?_
          refine GE (eff_box rfl) ?_; rintro _ _ ⟨b3, rfl, rfl⟩
          refine GQ (ev_assign rfl) ?_
          refine GO_nil ?_
          refine GN ?_
          refine GN ?_
          refine G_region ?_
          refine GQ (ev_move rfl) ?_
          (first | refine GQ (ev_eqlNil rfl rfl) ?_ | refine GQ (ev_eqlPtr rfl rfl) ?_)
          refine GQ (ev_move rfl) ?_
          refine GO_yes rfl rfl rfl rfl ?_
          refine GQ (ev_loadN rfl LnA) ?_
          refine GO_yes rfl rfl rfl rfl ?_
          refine GE (eff_call rfl (k0 _)) ?_; rintro _ _ ⟨rfl, rfl⟩
          refine GO_yes rfl rfl rfl rfl ?_
          refine GQ (ev_not rfl) ?_
          refine GQ (ev_pick_f rfl rfl rfl) ?_
          refine GQ (ev_assign rfl) ?_
          refine GO_nil ?_
          refine GN ?_
          refine G_cond_f rfl rfl ?_
          refine GN ?_
          refine G_region ?_
          refine GQ (ev_move rfl) ?_
          refine GQ (ev_loadN rfl LnA) ?_
          refine GE (eff_call rfl (hhas _ LnA (by repeat' first | exact Mp.here | apply Mp.skip))) ?_; rintro _ _ ⟨rfl, rfl⟩
          refine GQ (ev_assign rfl) ?_
          refine GO_nil ?_
          refine GN ?_
          refine G_cond_f rfl rfl ?_
          refine GN ?_
          refine G_draw (.q 0 (.q 2 (.q 3 (.q 4 (.q 5 (.e 1 (.q 6 (.q 7 .nil)))))))) (by kernel_rfl) (by kernel_rfl) ?_
          refine RM rfl (ev_move rfl) ?_
          refine RM rfl (ev_move rfl) ?_
          (first | refine RM rfl (ev_nilCheck rfl) ?_ | refine RM rfl (ev_nilCheckF (by simp) rfl) ?_)
          refine RM rfl (ev_fieldAddr rfl) ?_
          refine RQ rfl (ev_load rfl LdA) ?_
          refine RS_e (RE_eff rfl rfl rfl (eff_call rfl (hlive _ LnA (by repeat' first | exact Mp.here | apply Mp.skip))) ?_); rintro _ _ ⟨rfl, rfl⟩; refine ⟨_, fun _ s => s, ExA, ?_⟩
          refine RM rfl (ev_geq rfl rfl) ?_
          refine RM rfl (ev_assign rfl) ?_
          refine RS_nil ?_
          refine GN ?_
          refine G_cond_f rfl (decide_eq_false hf) ?_
          refine GN ?_
          refine GN ?_
          refine G_region ?_
          refine GQ (ev_move rfl) ?_
          refine GQ (ev_loadN rfl LnA) ?_
          refine GE (eff_call rfl (hkn _ LnA (by repeat' first | exact Mp.here | apply Mp.skip))) ?_; rintro _ _ ⟨rfl, rfl⟩
          refine GQ (ev_move rfl) ?_
          refine GQ (ev_extract rfl rfl) ?_
          refine GQ (ev_extract rfl rfl) ?_
          refine GQ (ev_assign rfl) ?_
          refine GQ (ev_assign rfl) ?_
          refine GO_nil ?_
          refine GN ?_
          refine G_region ?_
          refine GQ (ev_move rfl) ?_
          refine GO_nil ?_
          refine GN ?_
          refine G_cond_t rfl rfl ?_
          refine GN ?_
          refine G_draw (.q 0 (.q 1 (.q 2 (.q 3 (.q 4 (.e 5 .nil)))))) (by kernel_rfl) (by kernel_rfl) ?_
          refine RM rfl (ev_move rfl) ?_
          (first | refine RM rfl (ev_nilCheck rfl) ?_ | refine RM rfl (ev_nilCheckF (by simp) rfl) ?_)
          refine RM rfl (ev_fieldAddr rfl) ?_
          refine RQ rfl (ev_load rfl LdA) ?_
          refine RQ rfl (ev_loadN rfl LnA) ?_
          refine RS_e (RE_last (by kernel_rfl) rfl rfl rfl (eff_mapUpdate rfl rfl rfl PkA) ?_); rintro _ _ ⟨rfl, rfl⟩
          refine GN ?_
          refine G_region ?_
          refine GQ (ev_move rfl) ?_
          (first | refine GQ (ev_nilCheck rfl) ?_ | refine GQ (ev_nilCheckF (by simp) rfl) ?_)
          refine GQ (ev_fieldAddr rfl) ?_
          refine GQ (ev_load rfl LdA) ?_
          (first | refine GQ (ev_subN (q := 1) rfl rfl NgA) ?_ | refine GQ (ev_sub rfl rfl NgA) ?_)
          (first | refine GQ (ev_nilCheck rfl) ?_ | refine GQ (ev_nilCheckF (by simp) rfl) ?_)
          refine GQ (ev_fieldAddr rfl) ?_
          refine GE (eff_store rfl rfl rfl UpA) ?_; rintro _ _ ⟨rfl, rfl⟩
          refine GO_nil ?_
          refine GN ?_
          refine G_region ?_
          refine GQ (ev_assign rfl) ?_
          refine GO_nil ?_
          refine GN ?_
          have hI : LgI ⟨x.A, x.c, x.b, x.ts, putM p false x.M, x.N⟩ ⟨S.ls, S.d.erase p, S.bu⟩ := ⟨hx.cor, hx.at_, hback, hx.A⟩
          exact G_ret (L' := lgF s most ⟨S.ls, S.d.erase p, S.bu⟩ :: L) rfl (.tmp rfl .nil) (by (repeat first | exact en_refl | refine en_lg ⟨x.A, x.c, x.b, x.ts, putM p false x.M, x.N⟩ rfl (gone := ((S.d.length - 1 : Nat) : Int)) (by show ((S.d.erase p).length : Int) = _; omega) rfl rfl hI ?_ | (apply en_blk; focus ((repeat' first | exact Pick.here | apply Pick.skip | apply Pick.app); done); focus rfl) | (apply en_own; focus ((repeat' first | exact Pick.here | apply Pick.skip | apply Pick.app); done); focus rfl) | (apply en_pick; focus ((repeat' first | exact Pick.here | apply Pick.skip | apply Pick.app); done)) | apply en_drop | apply en_app) <;> fail) ⟨rfl, rfl⟩
        · rw [if_neg hd]
          rw [decide_eq_false hd] at hkn
          have hput := fun M => lgPut_ctr s most S p M (fun h => hp (hpl.2 ⟨h, hd⟩)) hg ok.nd ok.gd (by omega) (by omega) (by omega)
          refine Ctr_of (fn := Tryz.f9) (n := 49) Tryz.func9 rfl rfl rfl ?_
          intro g F
          refine GN ?_
          refine G_region ?_
          refine GE (eff_box rfl) ?_; rintro _ _ ⟨b3, rfl, rfl⟩
          refine GQ (ev_assign rfl) ?_
          refine GO_nil ?_
          refine GN ?_
          refine GN ?_
          refine G_region ?_
          refine GQ (ev_move rfl) ?_
          (first | refine GQ (ev_eqlNil rfl rfl) ?_ | refine GQ (ev_eqlPtr rfl rfl) ?_)
          refine GQ (ev_move rfl) ?_
          refine GO_yes rfl rfl rfl rfl ?_
          refine GQ (ev_loadN rfl LnA) ?_
          refine GO_yes rfl rfl rfl rfl ?_
          refine GE (eff_call rfl (k0 _)) ?_; rintro _ _ ⟨rfl, rfl⟩
          refine GO_yes rfl rfl rfl rfl ?_
          refine GQ (ev_not rfl) ?_
          refine GQ (ev_pick_f rfl rfl rfl) ?_
          refine GQ (ev_assign rfl) ?_
          refine GO_nil ?_
          refine GN ?_
          refine G_cond_f rfl rfl ?_
          refine GN ?_
          refine G_region ?_
          refine GQ (ev_move rfl) ?_
          refine GQ (ev_loadN rfl LnA) ?_
          refine GE (eff_call rfl (hhas _ LnA (by repeat' first | exact Mp.here | apply Mp.skip))) ?_; rintro _ _ ⟨rfl, rfl⟩
          refine GQ (ev_assign rfl) ?_
          refine GO_nil ?_
          refine GN ?_
          refine G_cond_f rfl rfl ?_
          refine GN ?_
          refine G_draw (.q 0 (.q 2 (.q 3 (.q 4 (.q 5 (.e 1 (.q 6 (.q 7 .nil)))))))) (by kernel_rfl) (by kernel_rfl) ?_
          refine RM rfl (ev_move rfl) ?_
          refine RM rfl (ev_move rfl) ?_
          (first | refine RM rfl (ev_nilCheck rfl) ?_ | refine RM rfl (ev_nilCheckF (by simp) rfl) ?_)
          refine RM rfl (ev_fieldAddr rfl) ?_
          refine RQ rfl (ev_load rfl LdA) ?_
          refine RS_e (RE_eff rfl rfl rfl (eff_call rfl (hlive _ LnA (by repeat' first | exact Mp.here | apply Mp.skip))) ?_); rintro _ _ ⟨rfl, rfl⟩; refine ⟨_, fun _ s => s, ExA, ?_⟩
          refine RM rfl (ev_geq rfl rfl) ?_
          refine RM rfl (ev_assign rfl) ?_
          refine RS_nil ?_
          refine GN ?_
          refine G_cond_f rfl (decide_eq_false hf) ?_
          refine GN ?_
          refine GN ?_
          refine G_region ?_
          refine GQ (ev_move rfl) ?_
          refine GQ (ev_loadN rfl LnA) ?_
          refine GE (eff_call rfl (hkn _ LnA (by repeat' first | exact Mp.here | apply Mp.skip))) ?_; rintro _ _ ⟨rfl, rfl⟩
          refine GQ (ev_move rfl) ?_
          refine GQ (ev_extract rfl rfl) ?_
          refine GQ (ev_extract rfl rfl) ?_
          refine GQ (ev_assign rfl) ?_
          refine GQ (ev_assign rfl) ?_
          refine GO_nil ?_
          refine GN ?_
          refine G_region ?_
          refine GQ (ev_move rfl) ?_
          refine GO_nil ?_
          refine GN ?_
          refine G_cond_f rfl rfl ?_
          refine G_heap (L' := lgF s most S :: blk b3 28 [.int .i64 p.id, .int .i64 p.x, .int .i64 p.y] :: F :: L) (by (repeat first | exact en_refl | refine en_lg x rfl rfl rfl rfl hx.toLgI ?_ | (apply en_blk; focus ((repeat' first | exact Pick.here | apply Pick.skip | apply Pick.app); done); focus rfl) | (apply en_own; focus ((repeat' first | exact Pick.here | apply Pick.skip | apply Pick.app); done); focus rfl) | (apply en_pick; focus ((repeat' first | exact Pick.here | apply Pick.skip | apply Pick.app); done)) | apply en_drop | apply en_app) <;> fail) ?_
          refine GN ?_
          refine G_region ?_
          refine GQ (ev_move rfl) ?_
          refine GQ (ev_loadN rfl LnA) ?_
          refine GE (eff_call rfl (hput _)) ?_; rintro _ _ ⟨rfl, rfl⟩
          refine GO_nil ?_
          refine GN ?_
          refine G_region ?_
          refine GQ (ev_assign rfl) ?_
          refine GO_nil ?_
          refine GN ?_
          exact G_ret (L' := lgF s most (S.put p) :: L) rfl (.tmp rfl .nil) EpA ⟨rfl, rfl⟩
theorem lganew_ctr (s : Nat) (most : Int) (S : LgS) (m : Nat) (L : List HP) (nd : S.ls.flatten.Nodup) (gd : ∀ q ∈ S.ls.flatten, goodP q = true) (ht : S.ls.flatten.length ≤ m) (hm : m ≤ 300) (hb : S.bu ≤ 100000000) :
    Ctr Tryz.prog 60 #[.pointer (some ⟨s, 0, none⟩)] (lgF s most S :: L) fun v L' => v = .tuple #[] ∧ L' = lgF s most S.anew :: L := by
  refine Ctr.lg fun x hx => ?_
  have hml := hx.mp.len
  have hal := fun M h => lgAll_ctr s x.b x.ts.length x.c x.A most S.bu S.d.length x.M M h (by omega)
  have e0 : srtO Pt.less (alv x.M) = S.live := srtO_eq sto_less (srtO_sorted sto_less _) ((srtO_perm _).trans (hx.mp.alv nd))
  rw [e0] at hal
  have hln : S.live.Nodup := (srtO_perm _).nodup_iff.2 (nd.filter _)
  have hll : S.live.length ≤ m := by
    have : S.live.length ≤ S.ls.flatten.length := by unfold LgS.live; rw [srtO_length]; exact List.length_filter_le ..
    omega
  have hlg : ∀ q ∈ S.live, goodP q = true := fun q hq => gd q (LgS.mem_live.1 hq).1
  unfold LgS.anew
  generalize S.live = l at *
  refine Ctr_of (fn := Tryz.f60) (n := 27) Tryz.func60 rfl rfl rfl ?_
  intro g F
  refine GN ?_
  refine G_region ?_
  refine GQ (ev_move rfl) ?_
  refine GE (eff_call rfl (Ctr.pick PkA (hal _ LnA))) ?_; rintro _ _ ⟨A1, d1, rfl, hA1, rfl⟩
  refine GQ (ev_assign rfl) ?_
  refine GO_nil ?_
  refine GN ?_
  refine G_region ?_
  refine GQ (ev_move rfl) ?_
  refine GQ (ev_move rfl) ?_
  (first | refine GQ (ev_nilCheck rfl) ?_ | refine GQ (ev_nilCheckF (by simp) rfl) ?_)
  refine GQ (ev_fieldAddr rfl) ?_
  refine GE (eff_store rfl rfl rfl UpA) ?_; rintro _ _ ⟨rfl, rfl⟩
  (first | refine GQ (ev_nilCheck rfl) ?_ | refine GQ (ev_nilCheckF (by simp) rfl) ?_)
  refine GQ (ev_fieldAddr rfl) ?_
  refine GE (eff_store rfl rfl rfl UpA) ?_; rintro _ _ ⟨rfl, rfl⟩
  refine GO_nil ?_
  refine GN ?_
  refine G_region ?_
  refine GQ (ev_move rfl) ?_
  (first | refine GQ (ev_nilCheck rfl) ?_ | refine GQ (ev_nilCheckF (by simp) rfl) ?_)
  refine GQ (ev_fieldAddr rfl) ?_
  refine GQ (ev_load rfl LdA) ?_
  refine GE (eff_clearM rfl PkA) ?_; rintro _ _ ⟨rfl, rfl⟩
  refine GO_nil ?_
  refine GN ?_
  refine G_region ?_
  refine GQ (ev_move rfl) ?_
  refine GQ (ev_len rfl) ?_
  refine GQ (ev_move rfl) ?_
  refine GO_nil ?_
  refine GN ?_
  have hz : LgI ⟨none, 0, x.b, [], [], []⟩ ⟨[], [], S.bu⟩ := ⟨rfl, by simp, ⟨.refl _, .refl _⟩, fun h => absurd h (Nat.lt_irrefl 0)⟩
  refine G_heap (own.nil_ 63 1) ?_
  refine G_loop (ι := Nat) (fun i => [(0, .pointer (some ⟨s, 0, none⟩)), (17, .slice A1 l.length d1), (18, .int .i64 (l.length : Nat)), (19, .int .i64 (i : Nat))]) (fun i => lgF s most ((l.take i).foldl LgS.put ⟨[], [], S.bu⟩) :: own 28 3 A1 l.length d1 (flat l) :: F :: L) (fun i => i ≤ l.length) (fun i => l.length - i) 0 (Nat.zero_le _) ⟨rfl, rfl, rfl, rfl, trivial⟩ (by (repeat first | exact en_refl | refine en_lg ⟨none, 0, x.b, [], [], []⟩ rfl (gone := 0) rfl rfl rfl hz ?_ | apply en_pk0 | (apply en_blk; focus ((repeat' first | exact Pick.here | apply Pick.skip | apply Pick.app); done); focus rfl) | (apply en_own; focus ((repeat' first | exact Pick.here | apply Pick.skip | apply Pick.app); done); focus rfl) | (apply en_pick; focus ((repeat' first | exact Pick.here | apply Pick.skip | apply Pick.app); done)) | apply en_drop | apply en_app) <;> fail) ?_
  rintro i hi
  refine GN ?_
  refine G_region ?_
  (first | refine GQ (ev_lssN rfl rfl) ?_ | refine GQ (ev_lss rfl rfl) ?_)
  refine GO_nil ?_
  refine GN ?_
  refine G_cond rfl (fun c1 => ?_) (fun c1 => ?_)
  · obtain ⟨ab, rfl⟩ := hA1 (by omega)
    have g1 : l[i]? = some l[i] := List.getElem?_eq_getElem (by omega)
    have s1 : l.take (i + 1) = l.take i ++ [l[i]] := List.take_succ_eq_append_getElem (by omega)
    have hq : ∀ X, Rd (own 28 3 (some ⟨ab, 0, none⟩) l.length d1 (flat l) :: X) (some ⟨ab, 0, none⟩) l.length l := fun X => Rc.own (flat_length _) (fun _ => ⟨ab, rfl⟩)
    have z1 : ∀ X, LdN (own 28 3 (some ⟨ab, 0, none⟩) l.length d1 (flat l) :: X) ab (0 + i * 3) 3 [.int .i64 l[i].id, .int .i64 l[i].x, .int .i64 l[i].y] := fun X => ld_ownP rfl g1 X
    have htk : (l.take i).Sublist l := List.take_sublist _ _
    have hf := fold_put (l.take i) ⟨[], [], S.bu⟩ m trivial (by simpa using htk.nodup hln) (fun q h => hlg q (htk.subset (by simpa using h))) rfl (by simp; omega) (.inl rfl)
    have hnew : l[i] ∉ l.take i := fun h => by
      have := hln
      rw [← List.take_append_drop i l, List.nodup_append] at this
      exact this.2.2 _ h l[i] (by rw [← List.getElem_cons_drop (show i < l.length by omega)]; exact List.mem_cons_self) rfl
    have hgi := hlg l[i] (List.getElem_mem _)
    have htl : (l.take i).length = i := by rw [List.length_take]; omega
    have sf : (l.take (i + 1)).foldl LgS.put ⟨[], [], S.bu⟩ = ((l.take i).foldl LgS.put ⟨[], [], S.bu⟩).put l[i] := by rw [s1, List.foldl_append]; rfl
    rw [htl] at hf
    have htn := htk.nodup hln
    have htg : ∀ q ∈ l.take i, goodP q = true := fun q h => hlg q (htk.subset h)
    generalize (l.take i).foldl LgS.put ⟨[], [], S.bu⟩ = S1 at *
    obtain ⟨q1, q2, q3, q4, q5⟩ := hf
    simp only [List.flatten_nil, List.nil_append] at q2
    have q6 := q2.length_eq
    have q7 := lv_le q4 (by omega)
    have q8 : m * i ≤ 300 * 300 := Nat.mul_le_mul hm (by omega)
    generalize l[i] = p at *
    have hput := fun M => lgPut_ctr s most S1 p M (fun h => hnew (q2.mem_iff.1 h)) hgi (q2.nodup_iff.2 htn) (fun q h => htg q (q2.mem_iff.1 h)) (by omega) (by omega) (by simp only at q5; omega)
    refine GN ?_
    refine G_region ?_
    (first | refine GQ (ev_indexAddrN rfl rfl NgA) ?_ | refine GQ (ev_indexAddr rfl rfl NgA NgA) ?_)
    refine GQ (ev_loadN rfl (by repeat' first | exact z1 _ | apply LdN.skip)) ?_
    refine GE eff_alloc ?_; rintro _ _ ⟨b4, rfl, rfl⟩
    refine GE (eff_storeN rfl rfl rfl rfl UpA) ?_; rintro _ _ ⟨rfl, rfl⟩
    refine GO_nil ?_
    refine GN ?_
    refine G_region ?_
    refine GQ (ev_move rfl) ?_
    refine GQ (ev_loadN rfl LnA) ?_
    refine GE (eff_call rfl (Ctr.pick PkA (hput _))) ?_; rintro _ _ ⟨rfl, rfl⟩
    refine GO_nil ?_
    refine GN ?_
    refine G_region ?_
    (first | refine GQ (ev_addN (q := 1) rfl rfl NgA) ?_ | refine GQ (ev_add rfl rfl NgA) ?_)
    refine GQ (ev_move rfl) ?_
    refine GO_nil ?_
    refine GN ?_
    refine G_round (i + 1) (by omega) (by omega) ⟨rfl, rfl, rfl, rfl, trivial⟩ ?_
    rw [sf]
    exact EpA
  · have e : i = l.length := by omega
    subst e
    rw [List.take_length]
    refine GN ?_
    exact G_end (rs := []) (vs := []) (L' := lgF s most (l.foldl LgS.put ⟨[], [], S.bu⟩) :: L) rfl .nil EpA ⟨rfl, rfl⟩
theorem LgOk.mark_len {S : LgS} {m : Nat} {p : Pt} (h : LgOk S m) (hp : p ∈ S.live) : (S.mark p).live.length + (S.mark p).d.length = (S.mark p).ls.flatten.length := by
  have h1 := LgS.mem_live.1 hp
  refine Proofs.YtkoncepjfgnjlaaGreat.live_len (S := S.mark p) h.nd ?_ ?_
  · show (S.d ++ [p]).Nodup
    rw [(List.perm_append_singleton p S.d).nodup_iff]
    exact List.nodup_cons.2 ⟨h1.2, h.dn⟩
  · intro q hq
    rcases List.mem_append.1 (show q ∈ S.d ++ [p] from hq) with h2 | h2
    · exact h.ds q h2
    · have : q = p := by simpa using h2
      rw [this]; exact h1.1
theorem LgDelete_ctr (s : Nat) (most : Int) (S : LgS) (p : Pt) (m : Nat) (L : List HP) (ok : LgOk S m) (hm : m ≤ 300) :
    Ctr Tryz.prog 32 #[.pointer (some ⟨s, 0, none⟩), p.v] (lgF s most S :: L) fun v L' => v = .int .i64 (delC S.live p) ∧ L' = lgF s most (S.del p) :: L := by
  refine Ctr.lg fun x hx => ?_
  have hll := ok.live_len
  have htot := ok.tot
  have hbt := ok.bt
  have hl10 := ok.ll (by omega)
  have hhas := fun M h1 h2 => JHas_ctr (s := s) (most := most) (L := M) hx h1 h2 p ok.nd
  unfold LgS.del delC
  by_cases hp : p ∈ S.live
  · rw [decide_eq_true hp] at hhas
    rw [if_pos hp, if_pos hp]
    have hml := ok.mark_len hp
    have hmd : (S.mark p).d.length = S.d.length + 1 := by show (S.d ++ [p]).length = _; simp
    have hmk := hx.mp.mark ((hx.mp.get_false ok.nd).2 (LgS.mem_live.1 hp))
    have hI : LgI ⟨x.A, x.c, x.b, x.ts, putM p true x.M, x.N⟩ (S.mark p) := ⟨hx.cor, hx.at_, hmk, hx.A⟩
    have hJ : LgJ ⟨x.A, x.c, x.b, x.ts, putM p true x.M, x.N⟩ (S.mark p) := ⟨hI, hx.c1, hx.c2⟩
    have hlive := fun M h1 h2 => JLive_ctr (s := s) (most := most) (L := M) hJ h1 h2 hml (by show S.ls.flatten.length ≤ _; omega)
    rw [hmd] at hlive
    have hmf : (S.mark p).ls.flatten.length = S.ls.flatten.length := rfl
    have han := fun M => lganew_ctr s most (S.mark p) m M ok.nd ok.gd ok.tot hm (by show S.bu ≤ _; omega)
    have hpos := List.length_pos_of_mem hp
    by_cases hc : (S.mark p).d.length ≤ S.live.length - 1
    · rw [if_pos hc]
      refine Ctr_of (fn := Tryz.f32) (n := 34) Tryz.func32 rfl rfl rfl ?_
      intro g F
      refine GN ?_
      refine G_region ?_
      refine GE (eff_box rfl) ?_; rintro _ _ ⟨b3, rfl, rfl⟩
      refine GQ (ev_assign rfl) ?_
      refine GO_nil ?_
      refine GN ?_
      refine GN ?_
      refine G_region ?_
      refine GQ (ev_move rfl) ?_
      (first | refine GQ (ev_eqlNil rfl rfl) ?_ | refine GQ (ev_eqlPtr rfl rfl) ?_)
      refine GQ (ev_assign rfl) ?_
      refine GO_nil ?_
      refine GN ?_
      refine G_cond_f rfl rfl ?_
      refine GN ?_
      refine G_region ?_
      refine GQ (ev_move rfl) ?_
      refine GQ (ev_loadN rfl LnA) ?_
      refine GE (eff_call rfl (hhas _ LnA (by repeat' first | exact Mp.here | apply Mp.skip))) ?_; rintro _ _ ⟨rfl, rfl⟩
      refine GQ (ev_not rfl) ?_
      refine GQ (ev_assign rfl) ?_
      refine GO_nil ?_
      refine GN ?_
      refine G_cond_f rfl rfl ?_
      refine GN ?_
      refine G_draw (.q 0 (.q 1 (.q 2 (.q 3 (.q 4 (.e 5 .nil)))))) (by kernel_rfl) (by kernel_rfl) ?_
      refine RM rfl (ev_move rfl) ?_
      (first | refine RM rfl (ev_nilCheck rfl) ?_ | refine RM rfl (ev_nilCheckF (by simp) rfl) ?_)
      refine RM rfl (ev_fieldAddr rfl) ?_
      refine RQ rfl (ev_load rfl LdA) ?_
      refine RQ rfl (ev_loadN rfl LnA) ?_
      refine RS_e (RE_last (by kernel_rfl) rfl rfl rfl (eff_mapUpdate rfl rfl rfl PkA) ?_); rintro _ _ ⟨rfl, rfl⟩
      refine GN ?_
      refine G_region ?_
      refine GQ (ev_move rfl) ?_
      (first | refine GQ (ev_nilCheck rfl) ?_ | refine GQ (ev_nilCheckF (by simp) rfl) ?_)
      refine GQ (ev_fieldAddr rfl) ?_
      refine GQ (ev_load rfl LdA) ?_
      (first | refine GQ (ev_addN (q := 1) rfl rfl NgA) ?_ | refine GQ (ev_add rfl rfl NgA) ?_)
      (first | refine GQ (ev_nilCheck rfl) ?_ | refine GQ (ev_nilCheckF (by simp) rfl) ?_)
      refine GQ (ev_fieldAddr rfl) ?_
      refine GE (eff_store rfl rfl rfl UpA) ?_; rintro _ _ ⟨rfl, rfl⟩
      refine GO_nil ?_
      refine GN ?_
      refine G_draw (.q 0 (.q 1 (.q 2 (.q 3 (.q 4 (.e 5 (.q 6 .nil))))))) (by kernel_rfl) (by kernel_rfl) ?_
      refine RM rfl (ev_move rfl) ?_
      (first | refine RM rfl (ev_nilCheck rfl) ?_ | refine RM rfl (ev_nilCheckF (by simp) rfl) ?_)
      refine RM rfl (ev_fieldAddr rfl) ?_
      refine RQ rfl (ev_load rfl LdA) ?_
      refine RM rfl (ev_move rfl) ?_
      refine RS_e (RE_eff rfl rfl rfl (eff_call rfl (hlive _ LnA (by repeat' first | exact Mp.here | apply Mp.skip))) ?_); rintro _ _ ⟨rfl, rfl⟩; refine ⟨_, fun _ s => s, ExA, ?_⟩
      refine RM rfl (ev_gtr rfl rfl) ?_
      refine RS_nil ?_
      refine GN ?_
      refine G_cond_f rfl (decide_eq_false (by omega)) ?_
      refine GN ?_
      refine GN ?_
      refine G_region ?_
      refine GQ (ev_assign rfl) ?_
      refine GO_nil ?_
      refine GN ?_
      exact G_ret (L' := lgF s most (S.mark p) :: L) rfl (.tmp rfl .nil) (by (repeat first | exact en_refl | refine en_lg ⟨x.A, x.c, x.b, x.ts, putM p true x.M, x.N⟩ rfl (gone := ((S.d.length + 1 : Nat) : Int)) (by rw [hmd]) rfl rfl hI ?_ | (apply en_blk; focus ((repeat' first | exact Pick.here | apply Pick.skip | apply Pick.app); done); focus rfl) | (apply en_own; focus ((repeat' first | exact Pick.here | apply Pick.skip | apply Pick.app); done); focus rfl) | (apply en_pick; focus ((repeat' first | exact Pick.here | apply Pick.skip | apply Pick.app); done)) | apply en_drop | apply en_app) <;> fail) ⟨rfl, rfl⟩
    · rw [if_neg hc]
      refine Ctr_of (fn := Tryz.f32) (n := 34) Tryz.func32 rfl rfl rfl ?_
      intro g F
      refine GN ?_
      refine G_region ?_
      refine GE (eff_box rfl) ?_; rintro _ _ ⟨b3, rfl, rfl⟩
      refine GQ (ev_assign rfl) ?_
      refine GO_nil ?_
      refine GN ?_
      refine GN ?_
      refine G_region ?_
      refine GQ (ev_move rfl) ?_
      (first | refine GQ (ev_eqlNil rfl rfl) ?_ | refine GQ (ev_eqlPtr rfl rfl) ?_)
      refine GQ (ev_assign rfl) ?_
      refine GO_nil ?_
      refine GN ?_
      refine G_cond_f rfl rfl ?_
      refine GN ?_
      refine G_region ?_
      refine GQ (ev_move rfl) ?_
      refine GQ (ev_loadN rfl LnA) ?_
      refine GE (eff_call rfl (hhas _ LnA (by repeat' first | exact Mp.here | apply Mp.skip))) ?_; rintro _ _ ⟨rfl, rfl⟩
      refine GQ (ev_not rfl) ?_
      refine GQ (ev_assign rfl) ?_
      refine GO_nil ?_
      refine GN ?_
      refine G_cond_f rfl rfl ?_
      refine GN ?_
      refine G_draw (.q 0 (.q 1 (.q 2 (.q 3 (.q 4 (.e 5 .nil)))))) (by kernel_rfl) (by kernel_rfl) ?_
      refine RM rfl (ev_move rfl) ?_
      (first | refine RM rfl (ev_nilCheck rfl) ?_ | refine RM rfl (ev_nilCheckF (by simp) rfl) ?_)
      refine RM rfl (ev_fieldAddr rfl) ?_
      refine RQ rfl (ev_load rfl LdA) ?_
      refine RQ rfl (ev_loadN rfl LnA) ?_
      refine RS_e (RE_last (by kernel_rfl) rfl rfl rfl (eff_mapUpdate rfl rfl rfl PkA) ?_); rintro _ _ ⟨rfl, rfl⟩
      refine GN ?_
      refine G_region ?_
      refine GQ (ev_move rfl) ?_
      (first | refine GQ (ev_nilCheck rfl) ?_ | refine GQ (ev_nilCheckF (by simp) rfl) ?_)
      refine GQ (ev_fieldAddr rfl) ?_
      refine GQ (ev_load rfl LdA) ?_
      (first | refine GQ (ev_addN (q := 1) rfl rfl NgA) ?_ | refine GQ (ev_add rfl rfl NgA) ?_)
      (first | refine GQ (ev_nilCheck rfl) ?_ | refine GQ (ev_nilCheckF (by simp) rfl) ?_)
      refine GQ (ev_fieldAddr rfl) ?_
      refine GE (eff_store rfl rfl rfl UpA) ?_; rintro _ _ ⟨rfl, rfl⟩
      refine GO_nil ?_
      refine GN ?_
      refine G_draw (.q 0 (.q 1 (.q 2 (.q 3 (.q 4 (.e 5 (.q 6 .nil))))))) (by kernel_rfl) (by kernel_rfl) ?_
      refine RM rfl (ev_move rfl) ?_
      (first | refine RM rfl (ev_nilCheck rfl) ?_ | refine RM rfl (ev_nilCheckF (by simp) rfl) ?_)
      refine RM rfl (ev_fieldAddr rfl) ?_
      refine RQ rfl (ev_load rfl LdA) ?_
      refine RM rfl (ev_move rfl) ?_
      refine RS_e (RE_eff rfl rfl rfl (eff_call rfl (hlive _ LnA (by repeat' first | exact Mp.here | apply Mp.skip))) ?_); rintro _ _ ⟨rfl, rfl⟩; refine ⟨_, fun _ s => s, ExA, ?_⟩
      refine RM rfl (ev_gtr rfl rfl) ?_
      refine RS_nil ?_
      refine GN ?_
      refine G_cond_t rfl (decide_eq_true (by omega)) ?_
      refine G_heap (L' := lgF s most (S.mark p) :: blk b3 28 [.int .i64 p.id, .int .i64 p.x, .int .i64 p.y] :: F :: L) (by (repeat first | exact en_refl | refine en_lg ⟨x.A, x.c, x.b, x.ts, putM p true x.M, x.N⟩ rfl (gone := ((S.d.length + 1 : Nat) : Int)) (by rw [hmd]) rfl rfl hI ?_ | (apply en_blk; focus ((repeat' first | exact Pick.here | apply Pick.skip | apply Pick.app); done); focus rfl) | (apply en_own; focus ((repeat' first | exact Pick.here | apply Pick.skip | apply Pick.app); done); focus rfl) | (apply en_pick; focus ((repeat' first | exact Pick.here | apply Pick.skip | apply Pick.app); done)) | apply en_drop | apply en_app) <;> fail) ?_
      refine GN ?_
      refine G_region ?_
      refine GQ (ev_move rfl) ?_
      refine GE (eff_call rfl (han _)) ?_; rintro _ _ ⟨rfl, rfl⟩
      refine GO_nil ?_
      refine GN ?_
      refine G_region ?_
      refine GQ (ev_assign rfl) ?_
      refine GO_nil ?_
      refine GN ?_
      exact G_ret (L' := lgF s most (S.mark p).anew :: L) rfl (.tmp rfl .nil) EpA ⟨rfl, rfl⟩
  · rw [decide_eq_false hp] at hhas
    rw [if_neg hp, if_neg hp]
    refine Ctr_of (fn := Tryz.f32) (n := 34) Tryz.func32 rfl rfl rfl ?_
    intro g F
    refine GN ?_
    refine G_region ?_
    refine GE (eff_box rfl) ?_; rintro _ _ ⟨b3, rfl, rfl⟩
    refine GQ (ev_assign rfl) ?_
    refine GO_nil ?_
    refine GN ?_
    refine GN ?_
    refine G_region ?_
    refine GQ (ev_move rfl) ?_
    (first | refine GQ (ev_eqlNil rfl rfl) ?_ | refine GQ (ev_eqlPtr rfl rfl) ?_)
    refine GQ (ev_assign rfl) ?_
    refine GO_nil ?_
    refine GN ?_
    refine G_cond_f rfl rfl ?_
    refine GN ?_
    refine G_region ?_
    refine GQ (ev_move rfl) ?_
    refine GQ (ev_loadN rfl LnA) ?_
    refine GE (eff_call rfl (hhas _ LnA (by repeat' first | exact Mp.here | apply Mp.skip))) ?_; rintro _ _ ⟨rfl, rfl⟩
    refine GQ (ev_not rfl) ?_
    refine GQ (ev_assign rfl) ?_
    refine GO_nil ?_
    refine GN ?_
    refine G_cond_t rfl rfl ?_
    refine GN ?_
    refine G_region ?_
    refine GQ (ev_assign rfl) ?_
    refine GO_nil ?_
    refine GN ?_
    exact G_ret (L' := lgF s most S :: L) rfl (.tmp rfl .nil) (by (repeat first | exact en_refl | refine en_lg x rfl rfl rfl rfl hx.toLgI ?_ | (apply en_blk; focus ((repeat' first | exact Pick.here | apply Pick.skip | apply Pick.app); done); focus rfl) | (apply en_own; focus ((repeat' first | exact Pick.here | apply Pick.skip | apply Pick.app); done); focus rfl) | (apply en_pick; focus ((repeat' first | exact Pick.here | apply Pick.skip | apply Pick.app); done)) | apply en_drop | apply en_app) <;> fail) ⟨rfl, rfl⟩
end Go.Proofs.YtkoncepjfgnjlaaGreat
/- Points in several trees: what an open set tells. -/
namespace Go.Proofs.YtkoncepjfgnjlaaGreat
attribute [local irreducible] sat
open Go.RowKit
set_option linter.unusedVariables false
set_option linter.unusedSectionVars false
set_option linter.unusedSimpArgs false
set_option maxRecDepth 100000

/-- Without the last ones that are nothing. -/
def trimZ (l : List Int) : List Int := (l.reverse.dropWhile (· == 0)).reverse
theorem trimZ_zero (l : List Int) : trimZ (l ++ [0]) = trimZ l := by simp [trimZ]
theorem trimZ_some (l : List Int) {v : Int} (h : v ≠ 0) : trimZ (l ++ [v]) = l ++ [v] := by simp [trimZ, h]
theorem trimZ_pre (l : List Int) : trimZ l <+: l := by
  unfold trimZ
  have := List.dropWhile_suffix (l := l.reverse) (· == 0)
  rw [← List.reverse_suffix]
  simpa using this
def szL (ls : List (List Pt)) : List Int := ls.map fun l => ((l.length : Nat) : Int)
section
variable {x : LgX} {S : LgS} {s : Nat} {most : Int} {L : List HP} (hx : LgJ x S) (h : LdN L s 0 5 (lsC x.A x.ts.length x.c x.b (S.d.length : Nat) most (S.bu : Nat)))
include hx h
theorem JBuilt_ctr : Ctr Tryz.prog 10 #[.pointer (some ⟨s, 0, none⟩)] L fun v L' => v = .int .i64 (S.bu : Nat) ∧ L' = L := by
  have h1 : Ld L ⟨s, 0 + 4, none⟩ (.int .i64 (S.bu : Nat)) := h.at_ (i := 4) rfl
  refine Ctr_of (fn := Tryz.f10) (n := 9) Tryz.func10 rfl rfl rfl ?_
  intro g F
  refine GN ?_
  refine G_region ?_
  refine GQ (ev_assign rfl) ?_
  refine GO_nil ?_
  refine GN ?_
  refine G_region ?_
  refine GQ (ev_move rfl) ?_
  (first | refine GQ (ev_eqlNil rfl rfl) ?_ | refine GQ (ev_eqlPtr rfl rfl) ?_)
  refine GO_nil ?_
  refine GN ?_
  refine G_cond_f rfl rfl ?_
  refine GN ?_
  refine G_region ?_
  refine GQ (ev_move rfl) ?_
  (first | refine GQ (ev_nilCheck rfl) ?_ | refine GQ (ev_nilCheckF (by simp) rfl) ?_)
  refine GQ (ev_fieldAddr rfl) ?_
  refine GQ (ev_load rfl LdA) ?_
  refine GQ (ev_assign rfl) ?_
  refine GO_nil ?_
  refine GN ?_
  refine G_ret rfl (.tmp rfl .nil) EnA ⟨rfl, rfl⟩
theorem JSizes_ctr (hr : Rd L x.A x.ts.length x.ts) (ht : ∀ o ∈ x.ts, oat L o) (hn : x.ts.length ≤ 1000) (hl : ∀ o ∈ x.ts, (opts o).length ≤ 1000000) : Ctr Tryz.prog 16 #[.pointer (some ⟨s, 0, none⟩)] L fun v L' => MadeY (trimZ (szL S.ls)) L v L' := by
  have h0 : Ld L ⟨s, 0 + 0, none⟩ (.slice x.A x.ts.length x.c) := h.at_ (i := 0) rfl
  have hsz : szL S.ls = x.ts.map fun o => (((opts o).length : Nat) : Int) := by
    have e : (x.ts.map opts).map (fun l : List Pt => ((l.length : Nat) : Int)) = (S.ls.map (srtO Pt.less)).map fun l => ((l.length : Nat) : Int) := by rw [show x.ts.map opts = _ from hx.cor]
    rw [List.map_map, List.map_map] at e
    unfold szL
    rw [show (fun o => (((opts o).length : Nat) : Int)) = (fun l : List Pt => ((l.length : Nat) : Int)) ∘ opts from rfl, e]
    apply List.map_congr_left
    intro l _
    simp [srtO_length]
  rw [hsz]
  clear hsz
  generalize hts : x.ts = ts at *
  generalize hA : x.A = A at *
  generalize hc : x.c = c at *
  obtain ⟨n, hn'⟩ : ∃ n, ts.length = n := ⟨_, rfl⟩
  rw [hn'] at hr hn h h0
  refine Ctr_of (fn := Tryz.f16) (n := 41) Tryz.func16 rfl rfl rfl ?_
  intro g F
  refine GN ?_
  refine G_region ?_
  refine GQ (ev_assign rfl) ?_
  refine GO_nil ?_
  refine GN ?_
  refine G_region ?_
  refine GQ (ev_assign rfl) ?_
  refine GO_nil ?_
  refine GN ?_
  refine G_region ?_
  refine GQ (ev_move rfl) ?_
  (first | refine GQ (ev_eqlNil rfl rfl) ?_ | refine GQ (ev_eqlPtr rfl rfl) ?_)
  refine GO_nil ?_
  refine GN ?_
  refine G_cond_f rfl rfl ?_
  refine GN ?_
  refine G_region ?_
  refine GQ (ev_move rfl) ?_
  (first | refine GQ (ev_nilCheck rfl) ?_ | refine GQ (ev_nilCheckF (by simp) rfl) ?_)
  refine GQ (ev_fieldAddr rfl) ?_
  refine GQ (ev_load rfl LdA) ?_
  refine GQ (ev_len rfl) ?_
  refine GQ (ev_move rfl) ?_
  refine GO_nil ?_
  (repeat first | refine G_seq ?_ | refine G_skip ?_ | refine G_endblk ?_)
  refine G_heap (own.nil_ 3 1) ?_
  refine G_cut (ι := Option Addr × Nat) (fun y => [(3, .slice y.1 n y.2)]) (fun y => own 3 1 y.1 n y.2 (flat (ts.map fun o => (((opts o).length : Nat) : Int))) :: F :: L) (fun y => 0 < n → ∃ b, y.1 = some ⟨b, 0, none⟩) ?_ ?_
  · refine GN ?_
    refine G_loop (ι := Nat × Option Addr × Nat) (fun y => [(3, .slice y.2.1 y.1 y.2.2), (11, .slice A n c), (12, .int .i64 (n : Nat)), (13, .int .i64 (y.1 : Nat))]) (fun y => own 3 1 y.2.1 y.1 y.2.2 (flat ((ts.take y.1).map fun o => (((opts o).length : Nat) : Int))) :: F :: L)
      (fun y => y.1 ≤ n ∧ (0 < y.1 → ∃ b, y.2.1 = some ⟨b, 0, none⟩) ∧ y.1 ≤ y.2.2 ∧ y.2.2 ≤ maxLen) (fun y => n - y.1) (0, none, 0) ⟨Nat.zero_le _, (fun h => absurd h (Nat.lt_irrefl 0)), Nat.le_refl _, Nat.zero_le _⟩ ⟨rfl, rfl, rfl, rfl, trivial⟩ EpA ?_
    rintro ⟨k, B, d⟩ ⟨f1, f2, f3, f4⟩
    simp only at f1 f2 f3 f4
    dsimp only
    refine GN ?_
    refine G_region ?_
    (first | refine GQ (ev_lssN rfl rfl) ?_ | refine GQ (ev_lss rfl rfl) ?_)
    refine GO_nil ?_
    refine GN ?_
    refine G_cond rfl (fun c1 => ?_) (fun c1 => ?_)
    · obtain ⟨lb, lo, rfl, hxx⟩ := hr.at_ (by omega)
      have g1 : ts[k]? = some ts[k] := List.getElem?_eq_getElem (by omega)
      have y1 := (hxx _ _ g1).at_ (i := 0) rfl
      have s1 : (ts.take (k + 1)).map (fun o => (((opts o).length : Nat) : Int)) = (ts.take k).map (fun o => (((opts o).length : Nat) : Int)) ++ [(((opts ts[k]).length : Nat) : Int)] := by
        rw [List.take_succ_eq_append_getElem (by omega), List.map_append]; rfl
      have o1 := ht ts[k] (List.getElem_mem _)
      have o2 := hl ts[k] (List.getElem_mem _)
      rw [show ((ts.take k).map fun o => (((opts o).length : Nat) : Int)) = (ts.take k).map (fun o => (((opts o).length : Nat) : Int)) from rfl]
      generalize ts[k] = o at *
      have z1 : Ld L ⟨lb, lo + k * 1, none⟩ (.pointer (oaddr o)) := y1
      have hL := fun M hM => oLen_ctr o M hM
      refine GN ?_
      refine G_region ?_
      (first | refine GQ (ev_indexAddrN rfl rfl NgA) ?_ | refine GQ (ev_indexAddr rfl rfl NgA NgA) ?_)
      refine GQ (ev_load rfl LdA) ?_
      refine GQ (ev_assign rfl) ?_
      refine GO_nil ?_
      refine GN ?_
      refine G_region ?_
      refine GQ (ev_move rfl) ?_
      refine GQ (ev_move rfl) ?_
      refine GE (eff_call rfl (hL _ (by repeat' first | exact o1 | apply oat.skip))) ?_; rintro _ _ ⟨rfl, rfl⟩
      refine GE (eff_buildSlice1 (by rfl) rfl rfl) ?_; rintro _ _ ⟨b20, rfl, rfl⟩
      refine GE (eff_append rfl rfl PkA (by repeat' first | exact Rc.blk rfl | assumption | apply Rc.skip) (one_all rfl) (by rfl) (by decide) NgA NgA) ?_; rintro _ _ ⟨A21, c21, rfl, hc21, hm21, hn21, rfl⟩
      refine GQ (ev_assign rfl) ?_
      refine GO_nil ?_
      refine GN ?_
      refine G_region ?_
      (first | refine GQ (ev_addN (q := 1) rfl rfl NgA) ?_ | refine GQ (ev_add rfl rfl NgA) ?_)
      refine GQ (ev_move rfl) ?_
      refine GO_nil ?_
      refine GN ?_
      refine G_round (k + 1, A21, c21) ⟨by simp only; omega, hn21, hc21, hm21⟩ (by simp only; omega) ⟨rfl, rfl, rfl, rfl, trivial⟩ ?_
      simp only
      rw [s1, ← flat_snoc]
      exact EpA
    · have e : k = n := by omega
      subst e
      rw [show ts.take k = ts from List.take_of_length_le (by omega)]
      refine GN ?_
      exact G_inv (B, d) f2 ⟨rfl, trivial⟩ EnA
  · rintro ⟨B, d⟩ fB
    simp only at fB
    dsimp only
    refine G_pure (fun h s => own.facts s) ?_
    rintro ⟨_, fd, f4, _⟩
    have hal : (ts.map fun o => (((opts o).length : Nat) : Int)).length = n := by simp [hn']
    have hab : ∀ v ∈ (ts.map fun o => (((opts o).length : Nat) : Int)), 0 ≤ v ∧ v ≤ 1000000 := fun v hv => by
      obtain ⟨o, ho, rfl⟩ := List.mem_map.1 hv
      have := hl o ho
      omega
    generalize (ts.map fun o => (((opts o).length : Nat) : Int)) = q at *
    have hq : ∀ X, Rd (own 3 1 B n d (flat q) :: X) B n q := fun X => Rc.own (by rw [flat_length, hal]; rfl) fB
    (repeat first | refine G_seq ?_ | refine G_skip ?_ | refine G_endblk ?_)
    refine G_cut (ι := Unit) (fun _ => [(3, .slice B (trimZ q).length d)]) (fun _ => own 3 1 B n d (flat q) :: F :: L) (fun _ => (trimZ q).length ≤ n ∧ trimZ q = q.take (trimZ q).length) ?_ ?_
    · refine GN ?_
      refine G_loop (ι := Nat) (fun k => [(3, .slice B k d)]) (fun _ => own 3 1 B n d (flat q) :: F :: L) (fun k => k ≤ n ∧ trimZ (q.take k) = trimZ q) (fun k => k) n ⟨Nat.le_refl _, by rw [List.take_of_length_le (by omega)]⟩ ⟨rfl, trivial⟩ EnA ?_
      rintro k ⟨f1, f2⟩
      rcases Nat.eq_zero_or_pos k with h0 | h0
      · subst h0
        have e0 : trimZ q = [] := by rw [← f2]; rfl
        refine GN ?_
        refine G_region ?_
        refine GQ (ev_move rfl) ?_
        refine GQ (ev_len rfl) ?_
        refine GQ (ev_gtr rfl rfl) ?_
        refine GQ (ev_move rfl) ?_
        refine GO_no rfl rfl rfl (decide_eq_false (by omega)) ?_
        refine GO_no rfl rfl rfl (decide_eq_false (by omega)) ?_
        refine GO_no rfl rfl rfl (decide_eq_false (by omega)) ?_
        refine GO_no rfl rfl rfl (decide_eq_false (by omega)) ?_
        refine GO_no rfl rfl rfl (decide_eq_false (by omega)) ?_
        refine GO_no rfl rfl rfl (decide_eq_false (by omega)) ?_
        refine GO_no rfl rfl rfl (decide_eq_false (by omega)) ?_
        refine GQ (ev_pick_f rfl (decide_eq_false (by omega)) rfl) ?_
        refine GO_nil ?_
        refine GN ?_
        refine G_cond_f rfl rfl ?_
        refine GN ?_
        exact G_inv () ⟨by rw [e0]; exact Nat.zero_le _, by rw [e0]; rfl⟩ ⟨by rw [e0]; rfl, trivial⟩ EnA
      · obtain ⟨bb, rfl⟩ := fB (by omega)
        obtain ⟨j, rfl⟩ : ∃ j, k = j + 1 := ⟨k - 1, by omega⟩
        have g1 : q[j]? = some q[j] := List.getElem?_eq_getElem (by omega)
        have s1 : q.take (j + 1) = q.take j ++ [q[j]] := List.take_succ_eq_append_getElem (by omega)
        have y1 : ∀ X, Ld (own 3 1 (some ⟨bb, 0, none⟩) n d (flat q) :: X) ⟨bb, 0 + j * 1, none⟩ (.int .i64 q[j]) := fun X => by
          obtain ⟨_, _, e9, hxx⟩ := (hq X).at_ (by omega)
          cases e9
          exact (hxx _ _ g1).at_ (i := 0) rfl
        generalize q[j] = v at *
        rw [s1] at f2
        by_cases hz : v = 0
        · subst hz
          rw [trimZ_zero] at f2
          refine GN ?_
          refine G_region ?_
          refine GQ (ev_move rfl) ?_
          refine GQ (ev_len rfl) ?_
          refine GQ (ev_gtr rfl rfl) ?_
          refine GQ (ev_move rfl) ?_
          refine GO_yes rfl rfl rfl (decide_eq_true (by omega)) ?_
          refine GQ (ev_move rfl) ?_
          refine GO_yes rfl rfl rfl (decide_eq_true (by omega)) ?_
          refine GQ (ev_move rfl) ?_
          refine GO_yes rfl rfl rfl (decide_eq_true (by omega)) ?_
          refine GQ (ev_len rfl) ?_
          refine GO_yes rfl rfl rfl (decide_eq_true (by omega)) ?_
          refine GQ (ev_subN (q := 1) rfl rfl (by omega)) ?_
          refine GO_yes rfl rfl rfl (decide_eq_true (by omega)) ?_
          refine GQ (ev_indexAddrN rfl rfl (by omega)) ?_
          refine GO_yes rfl rfl rfl (decide_eq_true (by omega)) ?_
          refine GQ (ev_load rfl (by repeat' first | exact y1 _ | apply Ld.skip)) ?_
          refine GO_yes rfl rfl rfl (decide_eq_true (by omega)) ?_
          refine GQ (ev_eql rfl rfl) ?_
          refine GQ (ev_pick_t rfl (decide_eq_true (by omega)) rfl) ?_
          refine GO_nil ?_
          refine GN ?_
          refine G_cond_t rfl rfl ?_
          refine GN ?_
          refine G_region ?_
          refine GQ (ev_move rfl) ?_
          refine GQ (ev_move rfl) ?_
          refine GQ (ev_len rfl) ?_
          refine GQ (ev_subN (q := 1) rfl rfl (by omega)) ?_
          refine GQ (ev_sliceH rfl rfl NgA) ?_
          refine GQ (ev_assign rfl) ?_
          refine GO_nil ?_
          refine GN ?_
          exact G_round j ⟨by omega, f2⟩ (by omega) ⟨rfl, trivial⟩ EnA
        · rw [trimZ_some _ hz, ← s1] at f2
          refine GN ?_
          refine G_region ?_
          refine GQ (ev_move rfl) ?_
          refine GQ (ev_len rfl) ?_
          refine GQ (ev_gtr rfl rfl) ?_
          refine GQ (ev_move rfl) ?_
          refine GO_yes rfl rfl rfl (decide_eq_true (by omega)) ?_
          refine GQ (ev_move rfl) ?_
          refine GO_yes rfl rfl rfl (decide_eq_true (by omega)) ?_
          refine GQ (ev_move rfl) ?_
          refine GO_yes rfl rfl rfl (decide_eq_true (by omega)) ?_
          refine GQ (ev_len rfl) ?_
          refine GO_yes rfl rfl rfl (decide_eq_true (by omega)) ?_
          refine GQ (ev_subN (q := 1) rfl rfl (by omega)) ?_
          refine GO_yes rfl rfl rfl (decide_eq_true (by omega)) ?_
          refine GQ (ev_indexAddrN rfl rfl (by omega)) ?_
          refine GO_yes rfl rfl rfl (decide_eq_true (by omega)) ?_
          refine GQ (ev_load rfl (by repeat' first | exact y1 _ | apply Ld.skip)) ?_
          refine GO_yes rfl rfl rfl (decide_eq_true (by omega)) ?_
          refine GQ (ev_eql rfl rfl) ?_
          refine GQ (ev_pick_t rfl (decide_eq_true (by omega)) rfl) ?_
          refine GO_nil ?_
          refine GN ?_
          refine G_cond_f rfl (decide_eq_false hz) ?_
          refine GN ?_
          have e2 : (trimZ q).length = j + 1 := by rw [← f2, List.length_take]; omega
          exact G_inv () ⟨by omega, by rw [e2]; exact f2.symm⟩ ⟨by rw [e2]; rfl, trivial⟩ EnA
    · rintro _ ⟨f1, f2⟩
      have hq2 : ∀ X, Rd (own 3 1 B n d (flat q) :: X) B (trimZ q).length (trimZ q) := fun X => by
        have := (hq X).take (k := (trimZ q).length) (by omega)
        rwa [← f2] at this
      refine GN ?_
      refine G_region ?_
      refine GQ (ev_move rfl) ?_
      refine GQ (ev_assign rfl) ?_
      refine GO_nil ?_
      refine GN ?_
      exact G_ret (L' := own 3 1 B n d (flat q) :: L) rfl (.tmp rfl .nil) EpA ⟨_, B, d, rfl, by omega, f4, hq2, rfl⟩
end
end Go.Proofs.YtkoncepjfgnjlaaGreat
/- Slices over iterators: Values, AppendSeq, Collect, Sorted of numbers. -/
namespace Go.Proofs.YtkoncepjfgnjlaaGreat
open Go.RowKit
set_option linter.unusedVariables false
set_option linter.unusedSimpArgs false
set_option maxRecDepth 100000

end Go.Proofs.YtkoncepjfgnjlaaGreat
/- Points in several trees: all dead points, over an iterator. -/
namespace Go.Proofs.YtkoncepjfgnjlaaGreat
attribute [local irreducible] sat
open Go.RowKit
set_option linter.unusedVariables false
set_option linter.unusedSimpArgs false
set_option maxRecDepth 100000

theorem dds_mid (A C : List (Pt × Bool)) (u : Pt × Bool) : ((if u.2 then [u.1] else []) ++ dds (A ++ C)).Perm (dds (A ++ u :: C)) := by
  obtain ⟨p, d⟩ := u
  rw [dds_app, dds_app, dds_cons, ← List.append_assoc, ← List.append_assoc]
  exact (List.perm_append_comm).append_right _
theorem chk1_ctr {Z : Type} (l b1 s0 b n c : Nat) (A : Option Addr) (gone most built : Int) (M : List (Pt × Bool)) (L : List Pt → Z → List HP) (Inv : List Pt → Z → Prop)
    (h1 : ∀ o z, Ld (L o z) ⟨b1, 0, none⟩ (.pointer (some ⟨s0, 0, none⟩))) (h2 : ∀ o z, LdN (L o z) s0 0 5 (lsC A n c b gone most built))
    (hy : ∀ o z p, o.length < M.length → Inv o z → Yld Tryz.prog l [p.v] (L o z) fun q L' => q = true ∧ ∃ z', Inv (o ++ [p]) z' ∧ L' = L (o ++ [p]) z') (z0 : Z) (h0 : Inv [] z0) :
    Ctr Tryz.prog 41 #[Value.func (.yield l) #[] #[], .pointer (some ⟨b1, 0, none⟩)] (mpH b M :: L [] z0) fun v L' => v = .tuple #[] ∧ ∃ o z', o.Perm (dds M) ∧ Inv o z' ∧ L' = mpH b M :: L o z' := by
  have h3 : ∀ o z, Ld (L o z) ⟨s0, 0 + 1, none⟩ (.map (some b)) := fun o z => (h2 o z).at_ (i := 1) rfl
  refine Ctr_of (fn := Tryz.f41) (n := 22) Tryz.func41 rfl rfl rfl ?_
  intro g F
  refine GN ?_
  refine G_region ?_
  refine GQ (ev_load rfl (by repeat' first | exact h1 _ _ | apply Ld.skip)) ?_
  (first | refine GQ (ev_nilCheck rfl) ?_ | refine GQ (ev_nilCheckF (by simp) rfl) ?_)
  refine GQ (ev_fieldAddr rfl) ?_
  refine GQ (ev_load rfl (by repeat' first | exact h3 _ _ | apply Ld.skip)) ?_
  refine GE (eff_range rfl PkA) ?_; rintro _ _ ⟨b9, rfl, rfl⟩
  refine GO_nil ?_
  refine GN ?_
  refine G_loop (ι := List (Pt × Bool) × Option (Pt × Bool) × List Pt × Z) (fun y => [(0, Value.func (.yield l) #[] #[]), (9, .pointer (some ⟨b9, 0, none⟩))]) (fun y => rgH b9 b M y.1 y.2.1 :: F :: L y.2.2.1 y.2.2.2)
    (fun y => (y.2.2.1 ++ dds y.1).Perm (dds M) ∧ y.2.2.1.length + y.1.length ≤ M.length ∧ Inv y.2.2.1 y.2.2.2) (fun y => y.1.length) (M, none, [], z0) ⟨.refl _, by simp, h0⟩ ⟨rfl, rfl, trivial⟩ EpA ?_
  rintro ⟨R, q, o, z⟩ ⟨f1, f2, f3⟩
  simp only at f1 f2 f3
  dsimp only
  cases R with
  | nil =>
    refine GN ?_
    refine G_region ?_
    refine GE (eff_nextN rfl PkA) ?_; rintro _ _ ⟨rfl, rfl⟩
    refine GQ (ev_extract rfl rfl) ?_
    refine GO_nil ?_
    refine GN ?_
    refine G_cond_f rfl rfl ?_
    refine GN ?_
    exact G_end (rs := []) (vs := []) (L' := mpH b M :: L o z) rfl .nil (by (repeat first | exact en_refl | apply en_rg | (apply en_blk; focus ((repeat' first | exact Pick.here | apply Pick.skip | apply Pick.app); done); focus rfl) | (apply en_own; focus ((repeat' first | exact Pick.here | apply Pick.skip | apply Pick.app); done); focus rfl) | (apply en_pick; focus ((repeat' first | exact Pick.here | apply Pick.skip | apply Pick.app); done)) | apply en_drop | apply en_app) <;> fail) ⟨rfl, o, z, by simpa [dds] using f1, f3, rfl⟩
  | cons u0 R =>
    refine GN ?_
    refine G_region ?_
    refine GE (eff_nextC rfl PkA) ?_; rintro _ _ ⟨R1, u, R2, eR, rfl, rfl⟩
    refine GQ (ev_extract rfl rfl) ?_
    refine GO_nil ?_
    refine GN ?_
    refine G_cond_t rfl rfl ?_
    have hl : R.length + 1 = R1.length + (R2.length + 1) := by
      have := congrArg List.length eR
      simpa using this
    have hpm := dds_mid R1 R2 u
    rw [← eR] at hpm
    obtain ⟨up, ud⟩ := u
    simp only [List.length_cons] at f2
    refine GN ?_
    refine G_region ?_
    refine GQ (ev_entry rfl (by repeat' first | exact Rg.here | apply Rg.skip)) ?_
    refine GQ (ev_extract rfl rfl) ?_
    refine GQ (ev_extract rfl rfl) ?_
    refine GE eff_alloc ?_; rintro _ _ ⟨b3, rfl, rfl⟩
    refine GE (eff_storeN rfl rfl rfl rfl UpA) ?_; rintro _ _ ⟨rfl, rfl⟩
    refine GQ (ev_assign rfl) ?_
    refine GO_nil ?_
    cases ud with
    | false =>
      refine GN ?_
      refine G_region ?_
      refine GQ (ev_move rfl) ?_
      refine GQ (ev_move rfl) ?_
      refine GO_no rfl rfl rfl rfl ?_
      refine GO_no rfl rfl rfl rfl ?_
      refine GO_no rfl rfl rfl rfl ?_
      refine GO_no rfl rfl rfl rfl ?_
      refine GQ (ev_pick_f rfl rfl rfl) ?_
      refine GO_nil ?_
      refine GN ?_
      refine G_cond_f rfl rfl ?_
      refine GN ?_
      exact G_round (R1 ++ R2, some (up, false), o, z) ⟨(hpm.append_left o).trans f1, by simp; omega, f3⟩ (by simp; omega) ⟨rfl, rfl, trivial⟩ EpA
    | true =>
      have hyk := hy o z up (by omega) f3
      refine GN ?_
      refine G_region ?_
      refine GQ (ev_move rfl) ?_
      refine GQ (ev_move rfl) ?_
      refine GO_yes rfl rfl rfl rfl ?_
      refine GQ (ev_move rfl) ?_
      refine GO_yes rfl rfl rfl rfl ?_
      refine GQ (ev_loadN rfl LnA) ?_
      refine GO_yes rfl rfl rfl rfl ?_
      refine GO_yield rfl rfl rfl (Yld.frame [_, _, F] hyk EpA) ?_
      rintro q2 L' ⟨L1, ⟨rfl, z', hz', rfl⟩, rfl⟩
      refine GO_yes rfl rfl rfl rfl ?_
      refine GQ (ev_not rfl) ?_
      refine GQ (ev_pick_t rfl rfl rfl) ?_
      refine GO_nil ?_
      refine GN ?_
      refine G_cond_f rfl rfl ?_
      refine GN ?_
      refine G_round (R1 ++ R2, some (up, true), o ++ [up], z') ⟨?_, by simp; omega, hz'⟩ (by simp; omega) ⟨rfl, rfl, trivial⟩ EpA
      show ((o ++ [up]) ++ dds (R1 ++ R2)).Perm (dds M)
      rw [List.append_assoc]
      exact (hpm.append_left o).trans f1
theorem appDead_ctr (b1 s0 b n c : Nat) (A : Option Addr) (gone most built : Int) (M : List (Pt × Bool)) (L : List HP) (h1 : Ld L ⟨b1, 0, none⟩ (.pointer (some ⟨s0, 0, none⟩))) (h2 : LdN L s0 0 5 (lsC A n c b gone most built)) (hM : M.length ≤ 100000) :
    Ctr Tryz.prog 70 #[.slice none 0 0, .func (.func 41) #[] #[.pointer (some ⟨b1, 0, none⟩)]] (mpH b M :: L) fun v L' => ∃ (o : List Pt) (B : Option Addr) (e : Nat), v = .slice B o.length e ∧ o.Perm (dds M) ∧ L' = own 28 3 B o.length e (flat o) :: mpH b M :: L := by
  refine Ctr_ofM (fn := Tryz.f70) (n := 13) Tryz.func70 rfl rfl rfl ?_
  intro g F hgb
  refine GN ?_
  refine G_region ?_
  refine GE (eff_box rfl) ?_; rintro _ _ ⟨b2, rfl, rfl⟩
  refine GQ (ev_assign rfl) ?_
  refine GO_nil ?_
  refine GN ?_
  refine G_region ?_
  refine GQ (ev_move rfl) ?_
  refine GO_nil ?_
  refine GN ?_
  refine G_heap (own.nil_ 28 3) ?_
  refine G_range1 (f := 41) (c1 := []) (c2 := [.pointer (some ⟨b1, 0, none⟩)]) (post := fun p L1 => p = none ∧ ∃ (o : List Pt) (z : Option Addr × Nat), o.Perm (dds M) ∧ L1 = own 28 3 z.1 o.length z.2 (flat o) :: blk b2 38 [.slice z.1 o.length z.2] :: F :: mpH b M :: L) (by rw [← hgb]; rfl) rfl rfl ?_ ?_ ?_
  · intro l d R hR
    have hv := chk1_ctr (Z := Option Addr × Nat) l b1 s0 b n c A gone most built M
      (fun o z => obj l (R .ready none) :: obj d (.deferred (some [])) :: own 28 3 z.1 o.length z.2 (flat o) :: blk b2 38 [.slice z.1 o.length z.2] :: F :: L)
      (fun o z => (0 < o.length → ∃ b, z.1 = some ⟨b, 0, none⟩) ∧ o.length ≤ z.2 ∧ z.2 ≤ maxLen)
      (fun o z => h1.skip.skip.skip.skip.skip) (fun o z => h2.skip.skip.skip.skip.skip) ?_ (none, 0) ⟨fun h => absurd h (Nat.lt_irrefl 0), Nat.le_refl _, Nat.zero_le _⟩
    · refine (Ctr.pre EpA hv).post' ?_
      rintro v L' hm ⟨rfl, o, z, ho, hz, rfl⟩ hsat
      refine ⟨_, ⟨.ready, none, _, (by decide), ⟨rfl, o, z, ho, rfl⟩, rfl⟩, ?_⟩
      revert hm
      exact EpA
    · intro o z p hk ⟨i1, i2, i3⟩
      refine hR (ι := Nat) (τ := fun b5 => [(2, .pointer (some ⟨b2, 0, none⟩)), (5, .pointer (some ⟨b5, 0, none⟩))]) (M := fun b5 => blk b5 28 [.int .i64 p.id, .int .i64 p.x, .int .i64 p.y] :: obj d (.deferred (some [])) :: own 28 3 z.1 o.length z.2 (flat o) :: blk b2 38 [.slice z.1 o.length z.2] :: F :: L) (Fy := fun _ => True) ?_ ?_
      · intro g F' _ _
        refine GN ?_
        refine G_region ?_
        refine GE eff_alloc ?_; rintro _ _ ⟨b5, rfl, rfl⟩
        refine GE (eff_storeN rfl rfl rfl rfl UpA) ?_; rintro _ _ ⟨rfl, rfl⟩
        refine GO_nil ?_
        exact G_rndStart b5 trivial ⟨rfl, rfl, trivial⟩ EpA
      · intro g F' b5 _ _ _
        refine GN ?_
        refine GN ?_
        refine G_region ?_
        refine GQ (ev_load rfl LdA) ?_
        refine GQ (ev_loadN rfl LnA) ?_
        refine GE (eff_buildSlice1 (by rfl) rfl rfl) ?_; rintro _ _ ⟨b10, rfl, rfl⟩
        refine GE (eff_append rfl rfl PkA (by repeat' first | exact Rc.blk rfl | assumption | apply Rc.skip) (one_all rfl) (by rfl) (by decide) NgA NgA) ?_; rintro _ _ ⟨A11, c11, rfl, hc11, hm11, hn11, rfl⟩
        refine GE (eff_store rfl rfl rfl UpA) ?_; rintro _ _ ⟨rfl, rfl⟩
        refine GO_nil ?_
        refine GN ?_
        have e3 : flat (o ++ [p]) = flat o ++ [.int .i64 p.id, .int .i64 p.x, .int .i64 p.y] := by rw [← flat_snoc]; rfl
        exact G_rndEnd (obj d (.deferred (some [])) :: own 28 3 A11 (o ++ [p]).length c11 (flat (o ++ [p])) :: blk b2 38 [.slice A11 (o ++ [p]).length c11] :: F :: L) ⟨rfl, (A11, c11), ⟨by simpa using hn11, by simpa using hc11, hm11⟩, rfl⟩ (by
          rw [e3]
          simp only [List.length_append, List.length_singleton]
          exact EpA)
  · rintro d L1 ⟨-, o, ⟨B, e⟩, ho, rfl⟩
    dsimp only
    refine GN ?_
    refine G_region ?_
    refine GQ (ev_load rfl LdA) ?_
    refine GQ (ev_assign rfl) ?_
    refine GO_nil ?_
    refine GN ?_
    exact G_retM [d] rfl (by rw [← hgb]; rfl) rfl (.tmp rfl .nil) (M := own 28 3 B o.length e (flat o) :: blk b2 38 [.slice B o.length e] :: F :: mpH b M :: L) (L' := own 28 3 B o.length e (flat o) :: mpH b M :: L) EpA EpA ⟨o, B, e, rfl, ho, rfl⟩
  · rintro d e L1 ⟨h, _⟩
    cases h
theorem colDead_ctr (b1 s0 b n c : Nat) (A : Option Addr) (gone most built : Int) (M : List (Pt × Bool)) (L : List HP) (h1 : Ld L ⟨b1, 0, none⟩ (.pointer (some ⟨s0, 0, none⟩))) (h2 : LdN L s0 0 5 (lsC A n c b gone most built)) (hM : M.length ≤ 100000) :
    Ctr Tryz.prog 40 #[.func (.func 41) #[] #[.pointer (some ⟨b1, 0, none⟩)]] (mpH b M :: L) fun v L' => ∃ (o : List Pt) (B : Option Addr) (e : Nat), v = .slice B o.length e ∧ o.Perm (dds M) ∧ L' = own 28 3 B o.length e (flat o) :: mpH b M :: L := by
  refine Ctr_of (fn := Tryz.f40) (n := 5) Tryz.func40 rfl rfl rfl ?_
  intro g F
  refine GN ?_
  refine G_region ?_
  refine GQ (ev_assign rfl) ?_
  refine GO_nil ?_
  refine GN ?_
  refine G_region ?_
  refine GQ (ev_move rfl) ?_
  refine GE (eff_call rfl (Ctr.pick PkA (appDead_ctr b1 s0 b n c A gone most built M _ h1.skip h2.skip hM))) ?_; rintro _ _ ⟨o, B, e, rfl, ho, rfl⟩
  refine GQ (ev_assign rfl) ?_
  refine GO_nil ?_
  refine GN ?_
  exact G_ret (L' := own 28 3 B o.length e (flat o) :: mpH b M :: L) rfl (.tmp rfl .nil) EpA ⟨o, B, e, rfl, ho, rfl⟩
theorem oPoints_ctr (o : Option RTr) (L : List HP) (h : oat L o) (hn : (opts o).length ≤ 1000000) : Ctr Tryz.prog 39 #[.pointer (oaddr o)] L fun v L' => Made 28 (opts o) L v L' := by
  cases o with
  | some x => exact tPoints_ctr (h x rfl) hn
  | none =>
    refine Ctr_of (fn := Tryz.f39) (n := 6) Tryz.func39 rfl rfl rfl ?_
    intro g F
    refine GN ?_
    refine G_region ?_
    refine GQ (ev_assign rfl) ?_
    refine GO_nil ?_
    refine GN ?_
    refine G_region ?_
    refine GQ (ev_move rfl) ?_
    refine GE (eff_call rfl (zpoints_ctr _)) ?_; rintro _ _ ⟨rfl, rfl⟩
    refine GE (eff_call rfl (Clone_ctr none 0 0 ([] : List Pt) _ (Rd.nil (α := Pt) _ _) (by omega))) ?_; rintro _ _ ⟨B, e, rfl, hB, rfl⟩
    refine GQ (ev_assign rfl) ?_
    refine GO_nil ?_
    refine GN ?_
    exact G_ret (L' := own 28 3 B ([] : List Pt).length e (flat ([] : List Pt)) :: L) rfl (.tmp rfl .nil) EpA ⟨B, e, rfl, hB, rfl⟩
section
variable {P : Program} {L : List HP} {σ : Env} {d : Option Nat} {ty T T' : TypeId} {pos : String} {aft : Array Edge} {gd : Option (Nat × Bool)} {x y : Operand}
theorem ev_shlN {yk : IntKind} {p q : Nat} (hx : ev σ x = some (.int .i64 (p : Int))) (hy : ev σ y = some (.int yk (q : Int))) (hq : q ≤ 64) (hb : p * 2 ^ q ≤ 9223372036854775807) : Ev P L σ ⟨d, .binOp .shl T x y T', ty, pos, aft, gd⟩ (.int .i64 ((p * 2 ^ q : Nat) : Int)) :=
  bin_run' .shl _ _ _ (fun w => rfl) hx hy fun w => by
    have e : ((p : Int) * 2 ^ (Int.toNat (q : Int))) = ((p * 2 ^ q : Nat) : Int) := by simp
    rw [binOp_shl, shift_shl .i64 yk (p : Int) (q : Int) (by omega) (by show (q : Int) ≤ 64; omega), e, IntWalk.i64_in _ (by omega)]
    rfl
end
end Go.Proofs.YtkoncepjfgnjlaaGreat
/- Points in order. -/
namespace Go.Proofs.YtkoncepjfgnjlaaGreat
set_option linter.unusedVariables false
set_option linter.unusedSimpArgs false
def leP (p q : Pt) : Prop := p.y < q.y ∨ (p.y = q.y ∧ (p.x < q.x ∨ (p.x = q.x ∧ p.id ≤ q.id)))
theorem up_leP (p q : Pt) : up p q ≤ 0 ↔ leP p q := by
  rw [← three_up]
  unfold three leP
  by_cases h1 : p.y < q.y
  · simp [h1]
  · by_cases h2 : q.y < p.y
    · simp [h1, h2] <;> omega
    · by_cases h3 : p.x < q.x
      · simp [h1, h2, h3] <;> omega
      · by_cases h4 : q.x < p.x
        · simp [h1, h2, h3, h4] <;> omega
        · by_cases h5 : p.id < q.id
          · simp [h1, h2, h3, h4, h5] <;> omega
          · by_cases h6 : q.id < p.id
            · simp [h1, h2, h3, h4, h5, h6] <;> omega
            · simp [h1, h2, h3, h4, h5, h6] <;> omega
theorem leP_trans {p q r : Pt} (h1 : leP p q) (h2 : leP q r) : leP p r := by unfold leP at *; omega
theorem leP_anti {p q : Pt} (h1 : leP p q) (h2 : leP q p) : p = q := by
  obtain ⟨a, b, c⟩ := p
  obtain ⟨d, e, f⟩ := q
  unfold leP at *
  simp only at *
  simp only [Pt.mk.injEq]
  omega
theorem leP_total (p q : Pt) : leP p q ∨ leP q p := by unfold leP; omega
theorem mrg_perm : ∀ (i k : Int) (l m : List Pt), ((mrg i k l m).map (·.p)).Perm (l ++ m)
  | _, _, [], [] => by simp [mrg]
  | i, k, a :: l, [] => by rw [mrg, List.map_cons]; exact (mrg_perm _ _ _ _).cons a
  | i, k, [], b :: m => by rw [mrg, List.map_cons]; exact (mrg_perm _ _ _ _).cons b
  | i, k, a :: l, b :: m => by
    rw [mrg]
    split
    · rw [List.map_cons]; exact (mrg_perm _ _ _ _).cons a
    · rw [List.map_cons]
      exact ((mrg_perm i (k + 1) (a :: l) m).cons b).trans List.perm_middle.symm
  termination_by _ _ l m => l.length + m.length
theorem mrg_sorted : ∀ (i k : Int) (l m : List Pt), l.Pairwise leP → m.Pairwise leP → ((mrg i k l m).map (·.p)).Pairwise leP
  | _, _, [], [], _, _ => by simp [mrg]
  | i, k, a :: l, [], h1, h2 => by
    rw [List.pairwise_cons] at h1
    rw [mrg, List.map_cons, List.pairwise_cons]
    refine ⟨fun b hb => ?_, mrg_sorted _ _ _ _ h1.2 h2⟩
    have := (mrg_perm _ _ _ _).subset hb
    exact h1.1 _ (by simpa using this)
  | i, k, [], b :: m, h1, h2 => by
    rw [List.pairwise_cons] at h2
    rw [mrg, List.map_cons, List.pairwise_cons]
    refine ⟨fun c hc => ?_, mrg_sorted _ _ _ _ h1 h2.2⟩
    have := (mrg_perm _ _ _ _).subset hc
    exact h2.1 _ (by simpa using this)
  | i, k, a :: l, b :: m, h1, h2 => by
    have h1' := List.pairwise_cons.1 h1
    have h2' := List.pairwise_cons.1 h2
    rw [mrg]
    split
    · rename_i hu
      have hu' := (up_leP _ _).1 hu
      rw [List.map_cons, List.pairwise_cons]
      refine ⟨fun c hc => ?_, mrg_sorted _ _ _ _ h1'.2 h2⟩
      rcases List.mem_append.1 ((mrg_perm _ _ _ _).subset hc) with h | h
      · exact h1'.1 _ h
      · rcases List.mem_cons.1 h with h | h
        · rw [h]; exact hu'
        · exact leP_trans hu' (h2'.1 _ h)
    · rename_i hu
      have hu' : leP b a := (leP_total b a).resolve_right fun h9 => hu ((up_leP _ _).2 h9)
      rw [List.map_cons, List.pairwise_cons]
      refine ⟨fun c hc => ?_, mrg_sorted _ _ _ _ h1 h2'.2⟩
      rcases List.mem_append.1 ((mrg_perm _ _ _ _).subset hc) with h | h
      · rcases List.mem_cons.1 h with h | h
        · rw [h]; exact hu'
        · exact leP_trans hu' (h1'.1 _ h)
      · exact h2'.1 _ h
  termination_by _ _ l m => l.length + m.length
end Go.Proofs.YtkoncepjfgnjlaaGreat
