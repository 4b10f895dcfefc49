/- Texts of the law LogmApart, one behind the other. -/
import Derived.Test.YtkoncepjfgnjlaaGreatLogmApartM3
import Derived.Test.YtkoncepjfgnjlaaGreatLogmApartM1
import Derived.Test.YtkoncepjfgnjlaaGreatLogmApartM2
/- A stack of nodes. -/
namespace Go.Proofs.YtkoncepjfgnjlaaGreat
attribute [local irreducible] sat
set_option linter.unusedVariables false
set_option linter.unusedSimpArgs false
set_option maxRecDepth 100000

@[reducible] def PR.v (x : PR) : Value := .agg #[.pointer x.T.addr, .int .i64 (x.f : Nat), .int .i64 (x.t : Nat)]
theorem Catch_ctr {fid : FuncId} {c1 c2 : List Value} {L : List HP} {post : List HP → Prop} [H : CalT Tryz.prog fid] (h : Ctr Tryz.prog fid (c1 ++ [] ++ c2).toArray L fun v L' => post L') :
    Ctr Tryz.prog 84 #[.func (.func fid) c1.toArray c2.toArray] L fun v L' => v = .tuple #[.agg #[.int .i64 0, .int .i64 0], .bool false] ∧ post L' := by
  refine Ctr_of (fn := Tryz.f84) (n := 8) Tryz.func84 rfl rfl rfl ?_
  intro g F
  refine GN ?_
  refine G_region ?_
  refine GE eff_alloc ?_; rintro _ _ ⟨b2, rfl, rfl⟩
  refine GQ (ev_assign rfl) ?_
  refine GO_nil ?_
  refine GN ?_
  refine G_region ?_
  refine GQ (ev_move rfl) ?_
  refine GE (eff_call rfl (Ctr.frame [blk b2 125 [.int .i64 0, .int .i64 0], F] (catch_ctr h) (fun _ s => s))) ?_; rintro _ _ ⟨L1, ⟨rfl, hp⟩, rfl⟩
  refine GQ (ev_extract rfl rfl) ?_
  refine GQ (ev_extract rfl rfl) ?_
  refine GE (eff_storeN rfl rfl rfl rfl UpA) ?_; rintro _ _ ⟨rfl, rfl⟩
  refine GQ (ev_assign rfl) ?_
  refine GO_nil ?_
  refine GN ?_
  exact G_ret (L' := L1) rfl (.cell rfl (loadN_run LnA) (.tmp rfl .nil)) EnA ⟨rfl, hp⟩
theorem SNew_ctr (L : List HP) : Ctr Tryz.prog 80 #[.int .i64 65536] L fun v L' => ∃ b, v = .tuple #[.pointer (some ⟨b, 0, none⟩), .int .i64 0] ∧ L' = stkS b 65536 [] :: L := by
  refine Ctr_of (fn := Tryz.f80) (n := 13) Tryz.func80 rfl rfl rfl ?_
  intro g F
  refine GN ?_
  refine G_region ?_
  refine GQ (ev_assign rfl) ?_
  refine GQ (ev_assign rfl) ?_
  refine GO_nil ?_
  refine GN ?_
  refine G_region ?_
  refine GQ (ev_move rfl) ?_
  (first | refine GQ (ev_lssN (q := 1) rfl rfl) ?_ | refine GQ (ev_lss rfl rfl) ?_)
  refine GQ (ev_move rfl) ?_
  refine GO_yes rfl rfl rfl rfl ?_
  refine GQ (ev_move rfl) ?_
  refine GO_yes rfl rfl rfl rfl ?_
  refine GQ (ev_gtr rfl rfl) ?_
  refine GQ (ev_pick_f rfl rfl rfl) ?_
  refine GO_nil ?_
  refine GN ?_
  refine G_cond_f rfl rfl ?_
  refine GN ?_
  refine G_region ?_
  refine GQ (ev_move rfl) ?_
  refine GQ (ev_build rfl rfl) ?_
  refine GE (eff_box rfl) ?_; rintro _ _ ⟨b12, rfl, rfl⟩
  refine GQ (ev_assign rfl) ?_
  refine GQ (ev_assign rfl) ?_
  refine GO_nil ?_
  refine GN ?_
  refine G_heap (own.nil_ 84 3) ?_
  exact G_ret (L' := stkS b12 65536 [] :: L) rfl (.tmp rfl (.tmp rfl .nil)) (by (repeat first | exact en_refl | apply en_stk (A := none) (c := 0) (l := []) (fun h => absurd h (Nat.lt_irrefl 0)) | (apply en_blk; focus ((repeat' first | exact Pick.here | apply Pick.skip | apply Pick.app); done); focus rfl) | (apply en_own; focus ((repeat' first | exact Pick.here | apply Pick.skip | apply Pick.app); done); focus rfl) | (apply en_pick; focus ((repeat' first | exact Pick.here | apply Pick.skip | apply Pick.app); done)) | apply en_drop | apply en_app) <;> fail) ⟨b12, rfl, rfl⟩
theorem SLen_k_ctr (b : Nat) (l : List PR) (L : List HP) : Ctr Tryz.prog 55 #[.pointer (some ⟨b, 0, none⟩)] (stkS b 65536 l :: L) fun v L' => v = .int .i64 (l.length : Nat) ∧ L' = stkS b 65536 l :: L := by
  refine Ctr.stk fun A c h1 h2 h3 => ?_
  refine Ctr_of (fn := Tryz.f55) (n := 10) Tryz.func55 rfl rfl rfl ?_
  intro g F
  refine GN ?_
  refine G_region ?_
  refine GQ (ev_assign rfl) ?_
  refine GO_nil ?_
  refine GN ?_
  refine G_region ?_
  refine GQ (ev_move rfl) ?_
  (first | refine GQ (ev_eqlNil rfl rfl) ?_ | refine GQ (ev_eqlPtr rfl rfl) ?_)
  refine GO_nil ?_
  refine GN ?_
  refine G_cond_f rfl rfl ?_
  refine GN ?_
  refine G_region ?_
  refine GQ (ev_move rfl) ?_
  (first | refine GQ (ev_nilCheck rfl) ?_ | refine GQ (ev_nilCheckF (by simp) rfl) ?_)
  refine GQ (ev_fieldAddr rfl) ?_
  refine GQ (ev_load rfl LdA) ?_
  refine GQ (ev_len rfl) ?_
  refine GQ (ev_assign rfl) ?_
  refine GO_nil ?_
  refine GN ?_
  exact G_ret (L' := stkS b 65536 l :: L) rfl (.tmp rfl .nil) (by (repeat first | exact en_refl | apply en_stk h1 | (apply en_blk; focus ((repeat' first | exact Pick.here | apply Pick.skip | apply Pick.app); done); focus rfl) | (apply en_own; focus ((repeat' first | exact Pick.here | apply Pick.skip | apply Pick.app); done); focus rfl) | (apply en_pick; focus ((repeat' first | exact Pick.here | apply Pick.skip | apply Pick.app); done)) | apply en_drop | apply en_app) <;> fail) ⟨rfl, rfl⟩
theorem stop_nil_ctr (b : Nat) (A : Option Addr) (c : Nat) (L : List HP) (h : LdN L b 0 2 [.slice A 0 c, .int .i64 65536]) : Ctr Tryz.prog 138 #[.pointer (some ⟨b, 0, none⟩)] L fun v L' => v = .tuple #[.agg #[.pointer none, .int .i64 0, .int .i64 0], .bool false] ∧ L' = L := by
  have h1 : Ld L ⟨b, 0 + 0, none⟩ (.slice A 0 c) := h.at_ (i := 0) rfl
  refine Ctr_of (fn := Tryz.f138) (n := 27) Tryz.func138 rfl rfl rfl ?_
  intro g F
  refine GN ?_
  refine G_region ?_
  refine GE eff_alloc ?_; rintro _ _ ⟨b2, rfl, rfl⟩
  refine GQ (ev_assign rfl) ?_
  refine GO_nil ?_
  refine GN ?_
  refine G_region ?_
  refine GQ (ev_move rfl) ?_
  (first | refine GQ (ev_eqlNil rfl rfl) ?_ | refine GQ (ev_eqlPtr rfl rfl) ?_)
  refine GQ (ev_move rfl) ?_
  refine GO_yes rfl rfl rfl rfl ?_
  refine GQ (ev_move rfl) ?_
  refine GO_yes rfl rfl rfl rfl ?_
  (first | refine GQ (ev_nilCheck rfl) ?_ | refine GQ (ev_nilCheckF (by simp) rfl) ?_)
  refine GO_yes rfl rfl rfl rfl ?_
  refine GQ (ev_fieldAddr rfl) ?_
  refine GO_yes rfl rfl rfl rfl ?_
  refine GQ (ev_load rfl LdA) ?_
  refine GO_yes rfl rfl rfl rfl ?_
  refine GQ (ev_len rfl) ?_
  refine GO_yes rfl rfl rfl rfl ?_
  refine GQ (ev_eql rfl rfl) ?_
  refine GQ (ev_pick_f rfl rfl rfl) ?_
  refine GO_nil ?_
  refine GN ?_
  refine G_cond_t rfl rfl ?_
  refine GN ?_
  refine G_region ?_
  refine GQ (ev_loadN rfl LnA) ?_
  refine GE (eff_storeN rfl rfl rfl rfl UpA) ?_; rintro _ _ ⟨rfl, rfl⟩
  refine GQ (ev_assign rfl) ?_
  refine GO_nil ?_
  refine GN ?_
  refine G_ret rfl (.cell rfl (loadN_run LnA) (.tmp rfl .nil)) EnA ⟨rfl, rfl⟩
theorem stop_ctr (b : Nat) (A : Option Addr) (n c : Nat) (l : List PR) (x : PR) (L : List HP) (h : LdN L b 0 2 [.slice A n c, .int .i64 65536]) (hr : Rd L A n (l ++ [x])) (hn : n = l.length + 1) (hb : n ≤ 65536) : Ctr Tryz.prog 138 #[.pointer (some ⟨b, 0, none⟩)] L fun v L' => v = .tuple #[x.v, .bool true] ∧ L' = L := by
  have h1 : Ld L ⟨b, 0 + 0, none⟩ (.slice A n c) := h.at_ (i := 0) rfl
  obtain ⟨lb, lo, rfl, hx⟩ := hr.at_ (by omega)
  have y1 : LdN L lb (lo + l.length * 3) 3 [.pointer x.T.addr, .int .i64 (x.f : Nat), .int .i64 (x.t : Nat)] := hx l.length x (by simp)
  have y2 : LdN L lb (lo + (n - 1) * 3) 3 [.pointer x.T.addr, .int .i64 (x.f : Nat), .int .i64 (x.t : Nat)] := by
    rw [show n - 1 = l.length by omega]; exact y1
  refine Ctr_of (fn := Tryz.f138) (n := 27) Tryz.func138 rfl rfl rfl ?_
  intro g F
  refine GN ?_
  refine G_region ?_
  refine GE eff_alloc ?_; rintro _ _ ⟨b2, rfl, rfl⟩
  refine GQ (ev_assign rfl) ?_
  refine GO_nil ?_
  refine GN ?_
  refine G_region ?_
  refine GQ (ev_move rfl) ?_
  (first | refine GQ (ev_eqlNil rfl rfl) ?_ | refine GQ (ev_eqlPtr rfl rfl) ?_)
  refine GQ (ev_move rfl) ?_
  refine GO_yes rfl rfl rfl rfl ?_
  refine GQ (ev_move rfl) ?_
  refine GO_yes rfl rfl rfl rfl ?_
  (first | refine GQ (ev_nilCheck rfl) ?_ | refine GQ (ev_nilCheckF (by simp) rfl) ?_)
  refine GO_yes rfl rfl rfl rfl ?_
  refine GQ (ev_fieldAddr rfl) ?_
  refine GO_yes rfl rfl rfl rfl ?_
  refine GQ (ev_load rfl LdA) ?_
  refine GO_yes rfl rfl rfl rfl ?_
  refine GQ (ev_len rfl) ?_
  refine GO_yes rfl rfl rfl rfl ?_
  refine GQ (ev_eql rfl rfl) ?_
  refine GQ (ev_pick_f rfl rfl rfl) ?_
  refine GO_nil ?_
  refine GN ?_
  refine G_cond_f rfl (decide_eq_false (by omega)) ?_
  refine GN ?_
  refine G_draw (.q 0 (.q 1 (.q 2 (.q 3 (.q 4 (.q 5 (.q 6 (.q 7 (.q 8 (.q 9 (.q 10 (.q 11 (.e 12 (.q 13 .nil)))))))))))))) (by kernel_rfl) (by kernel_rfl) ?_
  refine RM rfl (ev_move rfl) ?_
  (first | refine RM rfl (ev_nilCheck rfl) ?_ | refine RM rfl (ev_nilCheckF (by simp) rfl) ?_)
  refine RM rfl (ev_fieldAddr rfl) ?_
  refine RQ rfl (ev_load rfl LdA) ?_
  refine RM rfl (ev_move rfl) ?_
  (first | refine RM rfl (ev_nilCheck rfl) ?_ | refine RM rfl (ev_nilCheckF (by simp) rfl) ?_)
  refine RM rfl (ev_fieldAddr rfl) ?_
  refine RQ rfl (ev_load rfl LdA) ?_
  refine RQ rfl (ev_len rfl) ?_
  (first | refine RM rfl (ev_subN (q := 1) rfl rfl NgA) ?_ | refine RM rfl (ev_sub rfl rfl NgA) ?_)
  (first | refine RM rfl (ev_indexAddrN rfl rfl NgA) ?_ | refine RM rfl (ev_indexAddr rfl rfl NgA NgA) ?_)
  refine RQ rfl (ev_loadN rfl LnA) ?_
  refine RS_e (RE_cmp (by kernel_rfl) rfl rfl rfl (eff_storeN rfl rfl rfl rfl UpA) ?_); rintro _ _ ⟨rfl, rfl⟩
  refine RM rfl (ev_assign rfl) ?_
  refine RS_nil ?_
  refine GN ?_
  refine G_ret rfl (.cell rfl (loadN_run LnA) (.tmp rfl .nil)) EnA ⟨rfl, rfl⟩
theorem pop_nil_ctr (b : Nat) (L : List HP) : Ctr Tryz.prog 113 #[.pointer (some ⟨b, 0, none⟩)] (stkS b 65536 [] :: L) fun v L' => v = .tuple #[.agg #[.pointer none, .int .i64 0, .int .i64 0], .bool false] ∧ L' = stkS b 65536 [] :: L := by
  refine Ctr.stk fun A c h1 h2 h3 => ?_
  refine Ctr_of (fn := Tryz.f113) (n := 26) Tryz.func113 rfl rfl rfl ?_
  intro g F
  refine GN ?_
  refine G_region ?_
  refine GE eff_alloc ?_; rintro _ _ ⟨b2, rfl, rfl⟩
  refine GQ (ev_assign rfl) ?_
  refine GO_nil ?_
  refine GN ?_
  refine G_region ?_
  refine GQ (ev_move rfl) ?_
  refine GE (eff_call rfl (stop_nil_ctr b A c _ LnA)) ?_; rintro _ _ ⟨rfl, rfl⟩
  refine GQ (ev_move rfl) ?_
  refine GQ (ev_extract rfl rfl) ?_
  refine GQ (ev_extract rfl rfl) ?_
  refine GE (eff_storeN rfl rfl rfl rfl UpA) ?_; rintro _ _ ⟨rfl, rfl⟩
  refine GQ (ev_assign rfl) ?_
  refine GO_nil ?_
  refine GN ?_
  refine G_region ?_
  refine GQ (ev_move rfl) ?_
  refine GO_nil ?_
  refine GN ?_
  refine G_cond_f rfl rfl ?_
  refine GN ?_
  refine G_region ?_
  refine GQ (ev_loadN rfl LnA) ?_
  refine GQ (ev_move rfl) ?_
  refine GE (eff_storeN rfl rfl rfl rfl UpA) ?_; rintro _ _ ⟨rfl, rfl⟩
  refine GQ (ev_assign rfl) ?_
  refine GO_nil ?_
  refine GN ?_
  exact G_ret (L' := stkS b 65536 [] :: L) rfl (.cell rfl (loadN_run LnA) (.tmp rfl .nil)) (by (repeat first | exact en_refl | apply en_stk h1 | (apply en_blk; focus ((repeat' first | exact Pick.here | apply Pick.skip | apply Pick.app); done); focus rfl) | (apply en_own; focus ((repeat' first | exact Pick.here | apply Pick.skip | apply Pick.app); done); focus rfl) | (apply en_pick; focus ((repeat' first | exact Pick.here | apply Pick.skip | apply Pick.app); done)) | apply en_drop | apply en_app) <;> fail) ⟨rfl, rfl⟩
theorem pop_ctr (b : Nat) (l : List PR) (x : PR) (L : List HP) (hb : l.length + 1 ≤ 65536) : Ctr Tryz.prog 113 #[.pointer (some ⟨b, 0, none⟩)] (stkS b 65536 (l ++ [x]) :: L) fun v L' => v = .tuple #[x.v, .bool true] ∧ L' = stkS b 65536 l :: L := by
  refine Ctr.stk fun A c h1 h2 h3 => ?_
  have hlen : (l ++ [x]).length = l.length + 1 := by simp
  obtain ⟨ab, rfl⟩ := h1 (by omega)
  generalize hn : (l ++ [x]).length = n at *
  refine Ctr_of (fn := Tryz.f113) (n := 26) Tryz.func113 rfl rfl rfl ?_
  intro g F
  refine GN ?_
  refine G_region ?_
  refine GE eff_alloc ?_; rintro _ _ ⟨b2, rfl, rfl⟩
  refine GQ (ev_assign rfl) ?_
  refine GO_nil ?_
  refine GN ?_
  refine G_region ?_
  refine GQ (ev_move rfl) ?_
  refine GE (eff_call rfl (stop_ctr b (some ⟨ab, 0, none⟩) n c l x _ LnA (by repeat' first | exact Rc.own (by rw [flat_length, hn]; rfl) (fun _ ↦ ⟨ab, rfl⟩) | apply Rd.skip) hlen (by omega))) ?_; rintro _ _ ⟨rfl, rfl⟩
  refine GQ (ev_move rfl) ?_
  refine GQ (ev_extract rfl rfl) ?_
  refine GQ (ev_extract rfl rfl) ?_
  refine GE (eff_storeN rfl rfl rfl rfl UpA) ?_; rintro _ _ ⟨rfl, rfl⟩
  refine GQ (ev_assign rfl) ?_
  refine GO_nil ?_
  refine GN ?_
  refine G_region ?_
  refine GQ (ev_move rfl) ?_
  refine GO_nil ?_
  refine GN ?_
  refine G_cond_t rfl rfl ?_
  refine GN ?_
  refine G_draw (.q 0 (.q 1 (.q 2 (.q 3 (.q 4 (.q 5 (.q 6 (.q 7 (.q 8 (.q 9 (.q 10 (.q 11 (.q 12 (.q 13 (.e 14 .nil))))))))))))))) (by kernel_rfl) (by kernel_rfl) ?_
  refine RM rfl (ev_move rfl) ?_
  refine RM rfl (ev_move rfl) ?_
  (first | refine RM rfl (ev_nilCheck rfl) ?_ | refine RM rfl (ev_nilCheckF (by simp) rfl) ?_)
  refine RM rfl (ev_fieldAddr rfl) ?_
  refine RQ rfl (ev_load rfl LdA) ?_
  refine RM rfl (ev_move rfl) ?_
  (first | refine RM rfl (ev_nilCheck rfl) ?_ | refine RM rfl (ev_nilCheckF (by simp) rfl) ?_)
  refine RM rfl (ev_fieldAddr rfl) ?_
  refine RQ rfl (ev_load rfl LdA) ?_
  refine RQ rfl (ev_len rfl) ?_
  (first | refine RM rfl (ev_subN (q := 1) rfl rfl NgA) ?_ | refine RM rfl (ev_sub rfl rfl NgA) ?_)
  refine RQ rfl (ev_sliceH rfl rfl NgA) ?_
  (first | refine RM rfl (ev_nilCheck rfl) ?_ | refine RM rfl (ev_nilCheckF (by simp) rfl) ?_)
  refine RM rfl (ev_fieldAddr rfl) ?_
  refine RS_e (RE_last (by kernel_rfl) rfl rfl rfl (eff_store rfl rfl rfl UpA) ?_); rintro _ _ ⟨rfl, rfl⟩
  refine GN ?_
  refine G_region ?_
  refine GQ (ev_loadN rfl LnA) ?_
  refine GQ (ev_move rfl) ?_
  refine GE (eff_storeN rfl rfl rfl rfl UpA) ?_; rintro _ _ ⟨rfl, rfl⟩
  refine GQ (ev_assign rfl) ?_
  refine GO_nil ?_
  refine GN ?_
  have e1 : n - 1 = l.length := by omega
  rw [e1]
  refine G_ret (L' := stkS b 65536 l :: L) rfl (.cell rfl (loadN_run LnA) (.tmp rfl .nil)) ?_ ⟨rfl, rfl⟩
  apply en_pick
  focus ((repeat' first | exact Pick.here | apply Pick.skip | apply Pick.app); done)
  refine en_stk (c := c) (fun _ => ⟨ab, rfl⟩) ?_
  refine en_blk (.skip .here) rfl ?_
  refine en_less (.skip .here) (by omega) ?_ (en_drop en_refl)
  rw [flat_append]
  exact List.take_left' (flat_length _)
theorem push_ctr (b : Nat) (A : Option Addr) (m q : Nat) (l ys : List PR) (L : List HP) (hy : Rd L A m ys) (hb : l.length + m ≤ 65536) : Ctr Tryz.prog 111 #[.pointer (some ⟨b, 0, none⟩), .slice A m q] (stkS b 65536 l :: L) fun v L' => v = .tuple #[] ∧ L' = stkS b 65536 (l ++ ys) :: L := by
  have hm : ys.length = m := hy.len (by decide)
  refine Ctr.stk fun B c h1 h2 h3 => ?_
  refine Ctr_of (fn := Tryz.f111) (n := 32) Tryz.func111 rfl rfl rfl ?_
  intro g F
  refine GN ?_
  refine G_draw (.q 0 (.q 1 (.q 2 (.q 3 (.q 4 (.q 5 (.q 6 (.q 7 (.q 8 (.q 9 (.q 10 (.q 11 (.q 12 .nil))))))))))))) (by kernel_rfl) (by kernel_rfl) ?_
  refine RM rfl (ev_move rfl) ?_
  refine RQ rfl (ev_len rfl) ?_
  refine RM rfl (ev_move rfl) ?_
  (first | refine RM rfl (ev_nilCheck rfl) ?_ | refine RM rfl (ev_nilCheckF (by simp) rfl) ?_)
  refine RM rfl (ev_fieldAddr rfl) ?_
  refine RQ rfl (ev_load rfl LdA) ?_
  refine RM rfl (ev_move rfl) ?_
  (first | refine RM rfl (ev_nilCheck rfl) ?_ | refine RM rfl (ev_nilCheckF (by simp) rfl) ?_)
  refine RM rfl (ev_fieldAddr rfl) ?_
  refine RQ rfl (ev_load rfl LdA) ?_
  refine RQ rfl (ev_len rfl) ?_
  refine RM rfl (ev_sub rfl rfl (by omega)) ?_
  refine RM rfl (ev_gtr rfl rfl) ?_
  refine RS_nil ?_
  refine GN ?_
  refine G_cond_f rfl (decide_eq_false (by omega)) ?_
  refine GN ?_
  refine G_region ?_
  refine GQ (ev_move rfl) ?_
  refine GQ (ev_move rfl) ?_
  (first | refine GQ (ev_nilCheck rfl) ?_ | refine GQ (ev_nilCheckF (by simp) rfl) ?_)
  refine GQ (ev_fieldAddr rfl) ?_
  refine GQ (ev_load rfl LdA) ?_
  refine GQ (ev_move rfl) ?_
  refine GE (eff_append rfl rfl PkA ((by repeat' first | exact hy | apply Rc.skip)) ((flat_one _)) (by rfl) (by decide) NgA NgA) ?_; rintro _ _ ⟨A29, c29, rfl, hc29, hm29, hn29, rfl⟩
  (first | refine GQ (ev_nilCheck rfl) ?_ | refine GQ (ev_nilCheckF (by simp) rfl) ?_)
  refine GQ (ev_fieldAddr rfl) ?_
  refine GE (eff_store rfl rfl rfl UpA) ?_; rintro _ _ ⟨rfl, rfl⟩
  refine GO_nil ?_
  refine GN ?_
  have e1 : l.length + m = (l ++ ys).length := by rw [List.length_append, hm]
  rw [e1] at hn29 ⊢
  refine G_end (L' := stkS b 65536 (l ++ ys) :: L) rfl .nil ?_ ⟨rfl, rfl⟩
  apply en_pick
  focus ((repeat' first | exact Pick.here | apply Pick.skip | apply Pick.app); done)
  refine en_stk (c := c29) hn29 ?_
  rw [flat_append]
  exact EpA
theorem push1_ctr (b2 b3 b : Nat) (A : Option Addr) (m q : Nat) (l ys : List PR) (L : List HP) (h2 : Ld L ⟨b2, 0, none⟩ (.pointer (some ⟨b, 0, none⟩))) (h3 : Ld L ⟨b3, 0, none⟩ (.slice A m q)) (hy : Rd L A m ys) (hb : l.length + m ≤ 65536) :
    Ctr Tryz.prog 110 #[.pointer (some ⟨b2, 0, none⟩), .pointer (some ⟨b3, 0, none⟩)] (stkS b 65536 l :: L) fun v L' => L' = stkS b 65536 (l ++ ys) :: L := by
  refine Ctr_of (fn := Tryz.f110) (n := 5) Tryz.func110 rfl rfl rfl ?_
  intro g F
  refine GN ?_
  refine G_region ?_
  refine GQ (ev_load rfl LdA) ?_
  refine GQ (ev_load rfl LdA) ?_
  refine GE (eff_call rfl (Ctr.pick PkA (push_ctr b A m q l ys _ (by repeat' first | exact hy | apply Rd.skip) hb))) ?_; rintro _ _ ⟨rfl, rfl⟩
  refine GO_nil ?_
  refine GN ?_
  exact G_end (L' := stkS b 65536 (l ++ ys) :: L) rfl .nil EpA rfl
theorem Push_ctr (b : Nat) (A : Option Addr) (m q : Nat) (l ys : List PR) (L : List HP) (hy : Rd L A m ys) (hb : l.length + m ≤ 65536) : Ctr Tryz.prog 82 #[.pointer (some ⟨b, 0, none⟩), .slice A m q] (stkS b 65536 l :: L) fun v L' => v = .int .i64 0 ∧ L' = stkS b 65536 (l ++ ys) :: L := by
  refine Ctr_of (fn := Tryz.f82) (n := 16) Tryz.func82 rfl rfl rfl ?_
  intro g F
  refine GN ?_
  refine G_region ?_
  refine GE (eff_box rfl) ?_; rintro _ _ ⟨b2, rfl, rfl⟩
  refine GE (eff_box rfl) ?_; rintro _ _ ⟨b3, rfl, rfl⟩
  refine GQ (ev_assign rfl) ?_
  refine GO_nil ?_
  refine GN ?_
  refine G_region ?_
  refine GQ (ev_load rfl LdA) ?_
  (first | refine GQ (ev_eqlNil rfl rfl) ?_ | refine GQ (ev_eqlPtr rfl rfl) ?_)
  refine GO_nil ?_
  refine GN ?_
  refine G_cond_f rfl rfl ?_
  refine GN ?_
  refine G_region ?_
  refine GQ (ev_makeFunc rfl rfl) ?_
  refine GE (eff_call rfl (Ctr.pick PkA (Catch_ctr (c1 := []) (c2 := [.pointer (some ⟨b2, 0, none⟩), .pointer (some ⟨b3, 0, none⟩)]) (post := fun L' => L' = stkS b 65536 (l ++ ys) :: blk b3 128 [.slice A m q] :: blk b2 85 [.pointer (some ⟨b, 0, none⟩)] :: F :: L) (push1_ctr b2 b3 b A m q l ys _ (Ld.skip (Ld.blk rfl)) (Ld.blk rfl) (by repeat' first | exact hy | apply Rd.skip) hb)))) ?_; rintro _ _ ⟨rfl, rfl⟩
  refine GQ (ev_move rfl) ?_
  refine GQ (ev_extract rfl rfl) ?_
  refine GQ (ev_extract rfl rfl) ?_
  refine GE eff_alloc ?_; rintro _ _ ⟨b5, rfl, rfl⟩
  refine GE (eff_storeN rfl rfl rfl rfl UpA) ?_; rintro _ _ ⟨rfl, rfl⟩
  refine GQ (ev_assign rfl) ?_
  refine GO_nil ?_
  refine GN ?_
  refine G_region ?_
  refine GQ (ev_fieldAddr rfl) ?_
  refine GQ (ev_load rfl LdA) ?_
  refine GQ (ev_assign rfl) ?_
  refine GO_nil ?_
  refine GN ?_
  exact G_ret (L' := stkS b 65536 (l ++ ys) :: L) rfl (.tmp rfl .nil) EpA ⟨rfl, rfl⟩
/-! What is visited. -/
theorem KClone_ctr (A : Option Addr) (n c : Nat) (l : List PR) (L : List HP) (hl : Rd L A n l) (hn : n ≤ 1000000) :
    Ctr Tryz.prog 114 #[.slice A n c] L fun v L' => Made 84 l L v L' := by
  have h1 : l.length = n := hl.len (by decide)
  refine Ctr_of (fn := Tryz.f114) (n := 8) Tryz.func114 rfl rfl rfl ?_
  intro g F
  refine GN ?_
  refine G_region ?_
  refine GQ (ev_assign rfl) ?_
  refine GO_nil ?_
  refine GN ?_
  refine G_region ?_
  refine GQ (ev_move rfl) ?_
  refine GQ (ev_eqlNilS rfl rfl) ?_
  refine GO_nil ?_
  refine GN ?_
  refine G_condB rfl (fun h2 => ?_) (fun h2 => ?_)
  · have e : A = none := by simpa using h2
    subst e
    have h3 : n = 0 := by
      rcases Nat.eq_zero_or_pos n with h | h
      · exact h
      · obtain ⟨b, o, e, _⟩ := hl.at_ h; cases e
    subst h3
    have : l = [] := List.eq_nil_of_length_eq_zero h1
    subst this
    refine GN ?_
    refine G_region ?_
    refine GQ (ev_assign rfl) ?_
    refine GO_nil ?_
    refine GN ?_
    refine G_ret (L' := own 84 3 none 0 0 [] :: L) rfl (.tmp rfl .nil) ?_ ⟨none, 0, rfl, fun h => absurd h (Nat.lt_irrefl 0), rfl⟩
    exact fun h s => (own.nil_ 84 3 h s).swap
  · refine GN ?_
    refine G_region ?_
    refine GE eff_buildSlice0 ?_; rintro _ _ ⟨b5, rfl, rfl⟩
    refine GQ (ev_move rfl) ?_
    refine GE (eff_append rfl rfl PkA (Rc.skip (Rc.skip hl)) ((flat_one _)) (by rfl) (by decide) NgA NgA) ?_; rintro _ _ ⟨A7, c7, rfl, hc7, hm7, hn7, rfl⟩
    refine GQ (ev_assign rfl) ?_
    refine GO_nil ?_
    rw [Nat.zero_add] at hc7 hn7
    refine GN ?_
    refine G_ret (L' := own 84 3 A7 l.length c7 (flat l) :: L) rfl (.tmp rfl .nil) ?_ ⟨A7, c7, by rw [h1]; simp [retv], by rw [h1]; exact hn7, rfl⟩
    rw [h1, Nat.zero_add, List.nil_append]
    refine en_pick (.skip (.here)) ?_
    refine en_pick (.here) ?_
    exact EnA
theorem KReverse_ctr (A : Option Addr) (c : Nat) (l : List PR) (L : List HP) (hA : 0 < l.length → ∃ b, A = some ⟨b, 0, none⟩) (h2 : l.length ≤ 2) :
    Ctr Tryz.prog 115 #[.slice A l.length c] (own 84 3 A l.length c (flat l) :: L) fun v L' => v = .tuple #[] ∧ L' = own 84 3 A l.length c (flat l.reverse) :: L := by
  match l, h2, hA with
  | [], _, hA =>
    refine Ctr_of (fn := Tryz.f115) (n := 28) Tryz.func115 rfl rfl rfl ?_
    intro g F
    refine GN ?_
    refine G_region ?_
    refine GQ (ev_move rfl) ?_
    refine GQ (ev_len rfl) ?_
    (first | refine GQ (ev_subN (q := 1) rfl rfl NgA) ?_ | refine GQ (ev_sub rfl rfl NgA) ?_)
    refine GQ (ev_assign rfl) ?_
    refine GQ (ev_assign rfl) ?_
    refine GO_nil ?_
    refine GN ?_
    refine G_loop (ι := Unit) (fun _ => [(0, .slice A ([] : List PR).length c), (2, .int .i64 0), (3, .int .i64 (-1))]) (fun _ => F :: own 84 3 A ([] : List PR).length c (flat ([] : List PR)) :: L) (fun _ => True) (fun _ => 0) () trivial ⟨rfl, rfl, rfl, trivial⟩ en_refl ?_
    intro _ _
    refine GN ?_
    refine G_region ?_
    refine GQ (ev_move rfl) ?_
    refine GQ (ev_move rfl) ?_
    (first | refine GQ (ev_lssN rfl rfl) ?_ | refine GQ (ev_lss rfl rfl) ?_)
    refine GO_nil ?_
    refine GN ?_
    refine G_cond_f rfl rfl ?_
    refine GN ?_
    exact G_end (L' := own 84 3 A ([] : List PR).length c (flat ([] : List PR).reverse) :: L) rfl .nil en_refl ⟨rfl, rfl⟩
  | [x], _, hA =>
    refine Ctr_of (fn := Tryz.f115) (n := 28) Tryz.func115 rfl rfl rfl ?_
    intro g F
    refine GN ?_
    refine G_region ?_
    refine GQ (ev_move rfl) ?_
    refine GQ (ev_len rfl) ?_
    (first | refine GQ (ev_subN (q := 1) rfl rfl NgA) ?_ | refine GQ (ev_sub rfl rfl NgA) ?_)
    refine GQ (ev_assign rfl) ?_
    refine GQ (ev_assign rfl) ?_
    refine GO_nil ?_
    refine GN ?_
    refine G_loop (ι := Unit) (fun _ => [(0, .slice A [x].length c), (2, .int .i64 0), (3, .int .i64 0)]) (fun _ => F :: own 84 3 A [x].length c (flat [x]) :: L) (fun _ => True) (fun _ => 0) () trivial ⟨rfl, rfl, rfl, trivial⟩ en_refl ?_
    intro _ _
    refine GN ?_
    refine G_region ?_
    refine GQ (ev_move rfl) ?_
    refine GQ (ev_move rfl) ?_
    (first | refine GQ (ev_lssN rfl rfl) ?_ | refine GQ (ev_lss rfl rfl) ?_)
    refine GO_nil ?_
    refine GN ?_
    refine G_cond_f rfl rfl ?_
    refine GN ?_
    exact G_end (L' := own 84 3 A [x].length c (flat [x].reverse) :: L) rfl .nil en_refl ⟨rfl, rfl⟩
  | [x, y], _, hA =>
    obtain ⟨ab, rfl⟩ := hA (by simp)
    refine Ctr_of (fn := Tryz.f115) (n := 28) Tryz.func115 rfl rfl rfl ?_
    intro g F
    refine G_heap (L' := own 84 3 (some ⟨ab, 0, none⟩) 2 c [.pointer x.T.addr, .int .i64 (x.f : Nat), .int .i64 (x.t : Nat), .pointer y.T.addr, .int .i64 (y.f : Nat), .int .i64 (y.t : Nat)] :: F :: L) (fun _ s => s.swap) ?_
    refine G_open (ι := List Value) (F := fun r => (Value.pointer x.T.addr :: .int .i64 (x.f : Nat) :: .int .i64 (x.t : Nat) :: .pointer y.T.addr :: .int .i64 (y.f : Nat) :: .int .i64 (y.t : Nat) :: r).length = c * 3 ∧ 2 ≤ c ∧ c ≤ maxLen) (N := fun r => [blk ab 84 (.pointer x.T.addr :: .int .i64 (x.f : Nat) :: .int .i64 (x.t : Nat) :: .pointer y.T.addr :: .int .i64 (y.f : Nat) :: .int .i64 (y.t : Nat) :: r)]) (fun h o => by
      obtain ⟨cs, hb, hl, ht⟩ := o.opn
      have e : cs = .pointer x.T.addr :: .int .i64 (x.f : Nat) :: .int .i64 (x.t : Nat) :: .pointer y.T.addr :: .int .i64 (y.f : Nat) :: .int .i64 (y.t : Nat) :: cs.drop 6 := by
        have := List.take_append_drop 6 cs
        rw [show (2 * 3) = 6 from rfl] at ht
        rw [ht] at this
        exact this.symm
      exact ⟨cs.drop 6, ⟨by rw [← e]; exact hl, o.le, o.cap⟩, sat.one (e ▸ hb)⟩) ?_
    rintro r ⟨k1, k2, k3⟩
    refine G_heap (L' := F :: blk ab 84 (.pointer x.T.addr :: .int .i64 (x.f : Nat) :: .int .i64 (x.t : Nat) :: .pointer y.T.addr :: .int .i64 (y.f : Nat) :: .int .i64 (y.t : Nat) :: r) :: L) (fun _ s => s.swap) ?_
    refine GN ?_
    refine G_region ?_
    refine GQ (ev_move rfl) ?_
    refine GQ (ev_len rfl) ?_
    (first | refine GQ (ev_subN (q := 1) rfl rfl NgA) ?_ | refine GQ (ev_sub rfl rfl NgA) ?_)
    refine GQ (ev_assign rfl) ?_
    refine GQ (ev_assign rfl) ?_
    refine GO_nil ?_
    refine GN ?_
    refine G_loop (ι := List Value × Nat × Nat) (fun z => [(0, .slice (some ⟨ab, 0, none⟩) 2 c), (2, .int .i64 (z.2.1 : Nat)), (3, .int .i64 (z.2.2 : Nat))]) (fun z => F :: blk ab 84 z.1 :: L) (fun z => z = (.pointer x.T.addr :: .int .i64 (x.f : Nat) :: .int .i64 (x.t : Nat) :: .pointer y.T.addr :: .int .i64 (y.f : Nat) :: .int .i64 (y.t : Nat) :: r, 0, 1) ∨ z = (.pointer y.T.addr :: .int .i64 (y.f : Nat) :: .int .i64 (y.t : Nat) :: .pointer x.T.addr :: .int .i64 (x.f : Nat) :: .int .i64 (x.t : Nat) :: r, 1, 0)) (fun z => z.2.2) (.pointer x.T.addr :: .int .i64 (x.f : Nat) :: .int .i64 (x.t : Nat) :: .pointer y.T.addr :: .int .i64 (y.f : Nat) :: .int .i64 (y.t : Nat) :: r, 0, 1) (.inl rfl) ⟨rfl, rfl, rfl, trivial⟩ en_refl ?_
    rintro z (rfl | rfl)
    · dsimp only
      have w0 : ∀ M, LdN (blk ab 84 (.pointer x.T.addr :: .int .i64 (x.f : Nat) :: .int .i64 (x.t : Nat) :: .pointer y.T.addr :: .int .i64 (y.f : Nat) :: .int .i64 (y.t : Nat) :: r) :: M) ab (0 + 0 * 3) 3 [.pointer x.T.addr, .int .i64 (x.f : Nat), .int .i64 (x.t : Nat)] := fun M => LdN.blk rfl
      have w1 : ∀ M, LdN (blk ab 84 (.pointer x.T.addr :: .int .i64 (x.f : Nat) :: .int .i64 (x.t : Nat) :: .pointer y.T.addr :: .int .i64 (y.f : Nat) :: .int .i64 (y.t : Nat) :: r) :: M) ab (0 + 1 * 3) 3 [.pointer y.T.addr, .int .i64 (y.f : Nat), .int .i64 (y.t : Nat)] := fun M => LdN.blk (by cases r <;> rfl)
      refine GN ?_
      refine G_region ?_
      refine GQ (ev_move rfl) ?_
      refine GQ (ev_move rfl) ?_
      (first | refine GQ (ev_lssN rfl rfl) ?_ | refine GQ (ev_lss rfl rfl) ?_)
      refine GO_nil ?_
      refine GN ?_
      refine G_cond_t rfl rfl ?_
      refine GN ?_
      refine G_draw (.q 0 (.q 1 (.q 2 (.q 3 (.q 4 (.q 5 (.q 6 (.q 7 (.q 8 (.q 9 (.q 10 (.q 11 (.q 12 (.e 13 (.q 14 (.e 15 .nil)))))))))))))))) (by kernel_rfl) (by kernel_rfl) ?_
      refine RM rfl (ev_move rfl) ?_
      refine RM rfl (ev_move rfl) ?_
      refine RM rfl (ev_move rfl) ?_
      refine RM rfl (ev_move rfl) ?_
      refine RM rfl (ev_move rfl) ?_
      refine RM rfl (ev_move rfl) ?_
      (first | refine RM rfl (ev_indexAddrN rfl rfl NgA) ?_ | refine RM rfl (ev_indexAddr rfl rfl NgA NgA) ?_)
      refine RQ rfl (ev_loadN rfl (by repeat' first | exact w1 _ | apply LdN.skip)) ?_
      refine RM rfl (ev_move rfl) ?_
      refine RM rfl (ev_move rfl) ?_
      (first | refine RM rfl (ev_indexAddrN rfl rfl NgA) ?_ | refine RM rfl (ev_indexAddr rfl rfl NgA NgA) ?_)
      refine RQ rfl (ev_loadN rfl (by repeat' first | exact w0 _ | apply LdN.skip)) ?_
      (first | refine RM rfl (ev_indexAddrN rfl rfl NgA) ?_ | refine RM rfl (ev_indexAddr rfl rfl NgA NgA) ?_)
      refine RS_e (RE_cmp (by kernel_rfl) rfl rfl rfl (eff_storeN rfl rfl rfl rfl UpA) ?_); rintro _ _ ⟨rfl, rfl⟩
      (first | refine RM rfl (ev_indexAddrN rfl rfl NgA) ?_ | refine RM rfl (ev_indexAddr rfl rfl NgA NgA) ?_)
      refine RS_e (RE_last (by kernel_rfl) rfl rfl rfl (eff_storeN rfl rfl rfl rfl UpA) ?_); rintro _ _ ⟨rfl, rfl⟩
      refine GN ?_
      refine G_region ?_
      refine GQ (ev_move rfl) ?_
      (first | refine GQ (ev_addN (q := 1) rfl rfl NgA) ?_ | refine GQ (ev_add rfl rfl NgA) ?_)
      refine GQ (ev_move rfl) ?_
      (first | refine GQ (ev_subN (q := 1) rfl rfl NgA) ?_ | refine GQ (ev_sub rfl rfl NgA) ?_)
      refine GQ (ev_assign rfl) ?_
      refine GQ (ev_assign rfl) ?_
      refine GO_nil ?_
      refine GN ?_
      exact G_round (.pointer y.T.addr :: .int .i64 (y.f : Nat) :: .int .i64 (y.t : Nat) :: .pointer x.T.addr :: .int .i64 (x.f : Nat) :: .int .i64 (x.t : Nat) :: r, 1, 0) (.inr rfl) (Nat.zero_lt_one) ⟨rfl, rfl, rfl, trivial⟩ (by dsimp only; rw [sw6]; exact EpA)
    · dsimp only
      refine GN ?_
      refine G_region ?_
      refine GQ (ev_move rfl) ?_
      refine GQ (ev_move rfl) ?_
      (first | refine GQ (ev_lssN rfl rfl) ?_ | refine GQ (ev_lss rfl rfl) ?_)
      refine GO_nil ?_
      refine GN ?_
      refine G_cond_f rfl rfl ?_
      refine GN ?_
      refine G_end (L' := own 84 3 (some ⟨ab, 0, none⟩) 2 c [.pointer y.T.addr, .int .i64 (y.f : Nat), .int .i64 (y.t : Nat), .pointer x.T.addr, .int .i64 (x.f : Nat), .int .i64 (x.t : Nat)] :: L) rfl .nil (en_keep ?_) ⟨rfl, rfl⟩
      exact own_of3 k1 k2 k3
def funcB (P : Program) (T : TypeId) : Bool := match P.underlying T with
  | some (.func _ _ _) => true
  | _ => false
class FuncT (P : Program) (T : TypeId) : Prop where
  h : funcB P T = true
theorem FuncT.spec {P : Program} {T : TypeId} (H : FuncT P T) : ∃ a b c, P.underlying T = some (.func a b c) := by
  have h := H.h
  unfold funcB at h
  split at h
  · exact ⟨_, _, _, by assumption⟩
  · cases h
theorem ev_eqlNilF {P : Program} {L : List HP} {σ : Env} {d : Option Nat} {ty T T' : TypeId} {pos : String} {aft : Array Edge} {gd : Option (Nat × Bool)} {x y : Operand} {f : Fn} {a b : Array Value} [H : FuncT P T] (hx : ev σ x = some (.func f a b)) (hy : ev σ y = some .nilFunc) : Ev P L σ ⟨d, .binOp .eql T x y T', ty, pos, aft, gd⟩ (.bool false) :=
  bin_run' _ _ _ _ (fun w => by unfold eqGuard; split <;> rfl) hx hy fun w => by
    obtain ⟨_, _, _, he⟩ := H.spec
    have h2 : (Op.equal T (.func f a b) .nilFunc).run P w = .ok false w := by
      unfold Op.equal
      rw [show Op.maxDepth = 9999 + 1 from rfl]
      unfold Op.equalIn
      simp only [Sem.run_bind, run_underlying he, Result.andThen_ok]
      rfl
    show ((do pure (.bool (← Op.equal T (.func f a b) .nilFunc)) : Sem Value)).run P w = _
    simp only [Sem.run_bind, h2, Result.andThen_ok, Sem.run_pure]
instance : FuncT Tryz.prog 88 := ⟨by kernel_rfl⟩
/-- What looks at nodes: what it has, which ones it tells, what it has then; and what is still to come. -/
structure Vis (S : Type) where
  V : S → HP
  ok : PR → S → Prop
  kids : PR → List PR
  upd : PR → S → S
  f : FuncId
  c1 : List Value
  c2 : List Value
  I : List PR → S → Nat → Prop
structure Vis.Good {S : Type} (X : Vis S) (L : List HP) : Prop where
  cal : CalT Tryz.prog X.f
  visit : ∀ (M : List HP) (x : PR) (st : S), (∀ h, sat M h → sat L h) → X.ok x st → Ctr Tryz.prog X.f (X.c1 ++ [x.v] ++ X.c2).toArray (X.V st :: M) fun v L' => ∃ A c N, v = .slice A (X.kids x).length c ∧ L' = X.V (X.upd x st) :: (N ++ M) ∧ Rd (X.V (X.upd x st) :: (N ++ M)) A (X.kids x).length (X.kids x)
  next : ∀ (l : List PR) (x : PR) (st : S) (r : Nat), X.I (l ++ [x]) st r → ∃ r', r = r' + 1 ∧ X.I (l ++ (X.kids x).reverse) (X.upd x st) r'
  stop : ∀ (st : S) (r : Nat), X.I [] st r → r = 0
  cap : ∀ (l : List PR) (st : S) (r : Nat), X.I l st r → l.length ≤ 60000 ∧ ∀ x ∈ l, X.ok x st ∧ (X.kids x).length ≤ 2
@[reducible] def wkC {S : Type} (X : Vis S) (s n : Nat) : List Value := [.pointer (some ⟨s, 0, none⟩), .func (.func X.f) X.c1.toArray X.c2.toArray, .int .i64 (n : Nat)]
theorem wstep_nil_ctr {S : Type} (X : Vis S) (bw s n : Nat) (L : List HP) : Ctr Tryz.prog 86 #[.pointer (some ⟨bw, 0, none⟩)] (blk bw 123 (wkC X s n) :: stkS s 65536 [] :: L) fun v L' => v = .bool false ∧ L' = blk bw 123 (wkC X s n) :: stkS s 65536 [] :: L := by
  refine Ctr_of (fn := Tryz.f86) (n := 38) Tryz.func86 rfl rfl rfl ?_
  intro g F
  refine GN ?_
  refine G_region ?_
  refine GQ (ev_assign rfl) ?_
  refine GO_nil ?_
  refine GN ?_
  refine G_region ?_
  refine GQ (ev_move rfl) ?_
  (first | refine GQ (ev_nilCheck rfl) ?_ | refine GQ (ev_nilCheckF (by simp) rfl) ?_)
  refine GQ (ev_fieldAddr rfl) ?_
  refine GQ (ev_load rfl LdA) ?_
  refine GE (eff_call rfl (Ctr.pick PkA (pop_nil_ctr s _))) ?_; rintro _ _ ⟨rfl, rfl⟩
  refine GQ (ev_move rfl) ?_
  refine GQ (ev_extract rfl rfl) ?_
  refine GQ (ev_extract rfl rfl) ?_
  refine GE eff_alloc ?_; rintro _ _ ⟨b3, rfl, rfl⟩
  refine GE (eff_storeN rfl rfl rfl rfl UpA) ?_; rintro _ _ ⟨rfl, rfl⟩
  refine GQ (ev_assign rfl) ?_
  refine GO_nil ?_
  refine GN ?_
  refine G_region ?_
  refine GQ (ev_move rfl) ?_
  refine GQ (ev_not rfl) ?_
  refine GO_nil ?_
  refine GN ?_
  refine G_cond_t rfl rfl ?_
  refine GN ?_
  refine G_region ?_
  refine GQ (ev_assign rfl) ?_
  refine GO_nil ?_
  refine GN ?_
  exact G_ret (L' := blk bw 123 (wkC X s n) :: stkS s 65536 [] :: L) rfl (.tmp rfl .nil) EpA ⟨rfl, rfl⟩
theorem wstep_ctr {S : Type} (X : Vis S) (bw s n : Nat) (l : List PR) (x : PR) (st : S) (L L0 : List HP) (hX : X.Good L0) (hM : ∀ h, sat L h → sat L0 h) (hok : X.ok x st) (hk : (X.kids x).length ≤ 2) (hl : l.length ≤ 60000) (hn : n ≤ 1000000000000) :
    Ctr Tryz.prog 86 #[.pointer (some ⟨bw, 0, none⟩)] (blk bw 123 (wkC X s n) :: stkS s 65536 (l ++ [x]) :: X.V st :: L) fun v L' => v = .bool true ∧ L' = blk bw 123 (wkC X s (n + 1)) :: stkS s 65536 (l ++ (X.kids x).reverse) :: X.V (X.upd x st) :: L := by
  haveI := hX.cal
  refine Ctr_of (fn := Tryz.f86) (n := 38) Tryz.func86 rfl rfl rfl ?_
  intro g F
  refine GN ?_
  refine G_region ?_
  refine GQ (ev_assign rfl) ?_
  refine GO_nil ?_
  refine GN ?_
  refine G_region ?_
  refine GQ (ev_move rfl) ?_
  (first | refine GQ (ev_nilCheck rfl) ?_ | refine GQ (ev_nilCheckF (by simp) rfl) ?_)
  refine GQ (ev_fieldAddr rfl) ?_
  refine GQ (ev_load rfl LdA) ?_
  refine GE (eff_call rfl (Ctr.pick PkA (pop_ctr s l x _ (by omega)))) ?_; rintro _ _ ⟨rfl, rfl⟩
  refine GQ (ev_move rfl) ?_
  refine GQ (ev_extract rfl rfl) ?_
  refine GQ (ev_extract rfl rfl) ?_
  refine GE eff_alloc ?_; rintro _ _ ⟨b3, rfl, rfl⟩
  refine GE (eff_storeN rfl rfl rfl rfl UpA) ?_; rintro _ _ ⟨rfl, rfl⟩
  refine GQ (ev_assign rfl) ?_
  refine GO_nil ?_
  refine GN ?_
  refine G_region ?_
  refine GQ (ev_move rfl) ?_
  refine GQ (ev_not rfl) ?_
  refine GO_nil ?_
  refine GN ?_
  refine G_cond_f rfl rfl ?_
  refine GN ?_
  refine G_region ?_
  refine GQ (ev_move rfl) ?_
  (first | refine GQ (ev_nilCheck rfl) ?_ | refine GQ (ev_nilCheckF (by simp) rfl) ?_)
  refine GQ (ev_fieldAddr rfl) ?_
  refine GQ (ev_load rfl LdA) ?_
  (first | refine GQ (ev_addN (q := 1) rfl rfl NgA) ?_ | refine GQ (ev_add rfl rfl NgA) ?_)
  (first | refine GQ (ev_nilCheck rfl) ?_ | refine GQ (ev_nilCheckF (by simp) rfl) ?_)
  refine GQ (ev_fieldAddr rfl) ?_
  refine GE (eff_store rfl rfl rfl UpA) ?_; rintro _ _ ⟨rfl, rfl⟩
  refine GO_nil ?_
  refine GN ?_
  refine G_draw (.q 0 (.q 1 (.q 2 (.q 3 (.q 4 (.e 5 (.e 6 (.q 7 .nil)))))))) (by kernel_rfl) (by kernel_rfl) ?_
  refine RM rfl (ev_move rfl) ?_
  (first | refine RM rfl (ev_nilCheck rfl) ?_ | refine RM rfl (ev_nilCheckF (by simp) rfl) ?_)
  refine RM rfl (ev_fieldAddr rfl) ?_
  refine RQ rfl (ev_load rfl LdA) ?_
  refine RQ rfl (ev_loadN rfl LnA) ?_
  refine RS_e (RE_cmp (by kernel_rfl) rfl rfl rfl (eff_callv rfl rfl (Ctr.pre (M := X.V st :: blk bw 123 (wkC X s (n + 1)) :: stkS s 65536 l :: F :: L) EpA (hX.visit (blk bw 123 (wkC X s (n + 1)) :: stkS s 65536 l :: F :: L) x st (fun h t => hM h t.tail.tail.tail) hok))) ?_); rintro _ _ ⟨A28, c28, N28, rfl, rfl, hA28⟩
  refine RS_e (RE_eff rfl rfl rfl (eff_call rfl (KClone_ctr A28 _ c28 (X.kids x) _ hA28 (by omega))) ?_); rintro _ _ ⟨A29, c29, rfl, hA29, rfl⟩; refine ⟨_, fun _ s => s, ExA, ?_⟩
  refine RM rfl (ev_assign rfl) ?_
  refine RS_nil ?_
  refine GN ?_
  refine G_region ?_
  refine GQ (ev_move rfl) ?_
  refine GE (eff_call rfl (Ctr.pick PkA (KReverse_ctr A29 c29 (X.kids x) _ hA29 hk))) ?_; rintro _ _ ⟨rfl, rfl⟩
  refine GO_nil ?_
  refine GN ?_
  refine G_region ?_
  refine GQ (ev_move rfl) ?_
  (first | refine GQ (ev_nilCheck rfl) ?_ | refine GQ (ev_nilCheckF (by simp) rfl) ?_)
  refine GQ (ev_fieldAddr rfl) ?_
  refine GQ (ev_load rfl LdA) ?_
  refine GQ (ev_move rfl) ?_
  refine GE (eff_call rfl (Ctr.pick PkA (push_ctr s A29 _ c29 l (X.kids x).reverse _ (by repeat' first | exact Rc.own (by rw [flat_length, List.length_reverse]; rfl) hA29 | apply Rd.skip) (by omega)))) ?_; rintro _ _ ⟨rfl, rfl⟩
  refine GO_nil ?_
  refine GN ?_
  refine G_region ?_
  refine GQ (ev_assign rfl) ?_
  refine GO_nil ?_
  refine GN ?_
  exact G_ret (L' := blk bw 123 (wkC X s (n + 1)) :: stkS s 65536 (l ++ (X.kids x).reverse) :: X.V (X.upd x st) :: L) rfl (.tmp rfl .nil) EpA ⟨rfl, rfl⟩
theorem walk1_ctr {S : Type} (X : Vis S) (b8 b4 bw s k r : Nat) (l : List PR) (st : S) (L L0 : List HP) (hX : X.Good L0) (hM : ∀ h, sat L h → sat L0 h) (hI : X.I l st r) (hk : r ≤ 100000000) :
    Ctr Tryz.prog 85 #[.pointer (some ⟨b8, 0, none⟩), .pointer (some ⟨b4, 0, none⟩)] (blk b8 121 [.pointer (some ⟨bw, 0, none⟩)] :: blk b4 3 [.int .i64 (k : Nat)] :: blk bw 123 (wkC X s 0) :: stkS s 65536 l :: X.V st :: L)
      fun v L' => ∃ l' st', X.I l' st' (r - min k r) ∧ L' = blk b8 121 [.pointer (some ⟨bw, 0, none⟩)] :: blk b4 3 [.int .i64 (k : Nat)] :: blk bw 123 (wkC X s (min k r)) :: stkS s 65536 l' :: X.V st' :: L := by
  refine Ctr_of (fn := Tryz.f85) (n := 12) Tryz.func85 rfl rfl rfl ?_
  intro g F
  refine GN ?_
  refine G_loop (ι := List PR × S × Nat) (fun _ => [(0, .pointer (some ⟨b8, 0, none⟩)), (1, .pointer (some ⟨b4, 0, none⟩))]) (fun y => blk b8 121 [.pointer (some ⟨bw, 0, none⟩)] :: blk b4 3 [.int .i64 (k : Nat)] :: blk bw 123 (wkC X s y.2.2) :: stkS s 65536 y.1 :: X.V y.2.1 :: F :: L) (fun y => y.2.2 ≤ k ∧ y.2.2 ≤ r ∧ X.I y.1 y.2.1 (r - y.2.2)) (fun y => r - y.2.2) (l, st, 0) ⟨Nat.zero_le _, Nat.zero_le _, hI⟩ ⟨rfl, rfl, trivial⟩ EpA ?_
  rintro ⟨l1, st1, j⟩ ⟨f1, f2, f3⟩
  simp only at f1 f2 f3
  dsimp only
  by_cases hj : j < k
  · rcases List.eq_nil_or_concat l1 with h | ⟨l0, x, h⟩
    · subst h
      have h0 := hX.stop _ _ f3
      refine GN ?_
      refine G_draw (.q 0 (.q 1 (.q 2 (.q 3 (.q 4 (.q 5 (.q 6 (.q 7 (.e 8 (.q 9 .nil)))))))))) (by kernel_rfl) (by kernel_rfl) ?_
      refine RQ rfl (ev_load rfl LdA) ?_
      (first | refine RM rfl (ev_nilCheck rfl) ?_ | refine RM rfl (ev_nilCheckF (by simp) rfl) ?_)
      refine RM rfl (ev_fieldAddr rfl) ?_
      refine RQ rfl (ev_load rfl LdA) ?_
      refine RQ rfl (ev_load rfl LdA) ?_
      (first | refine RM rfl (ev_lssN rfl rfl) ?_ | refine RM rfl (ev_lss rfl rfl) ?_)
      refine RM rfl (ev_move rfl) ?_
      refine RS_q_yes retB_noPanic rfl rfl rfl rfl ⟨_, rfl, (decide_eq_true (by omega))⟩ rfl (ev_load rfl LdA) ?_
      refine RS_e (RE_cmp_yes (by kernel_rfl) rfl rfl rfl ⟨_, rfl, (decide_eq_true (by omega))⟩ rfl (eff_call rfl (Ctr.pre (M := blk bw 123 (wkC X s j) :: stkS s 65536 [] :: blk b8 121 [.pointer (some ⟨bw, 0, none⟩)] :: blk b4 3 [.int .i64 (k : Nat)] :: X.V st1 :: F :: L) EpA (wstep_nil_ctr X bw s j _))) ?_); rintro _ _ ⟨rfl, rfl⟩
      refine RM rfl (ev_pick_t rfl (decide_eq_true (by omega)) rfl) ?_
      refine RS_nil ?_
      refine GN ?_
      refine G_cond_f rfl rfl ?_
      refine GN ?_
      have e : min k r = j := by omega
      refine G_end (L' := blk b8 121 [.pointer (some ⟨bw, 0, none⟩)] :: blk b4 3 [.int .i64 (k : Nat)] :: blk bw 123 (wkC X s j) :: stkS s 65536 [] :: X.V st1 :: L) rfl .nil EpA ?_
      rw [e]
      exact ⟨[], st1, f3, rfl⟩
    · rw [List.concat_eq_append] at h
      subst h
      obtain ⟨k1, k2⟩ := hX.cap _ _ _ f3
      obtain ⟨r', e1, e2⟩ := hX.next _ _ _ _ f3
      have k3 := k2 x (List.mem_append.2 (.inr (List.mem_singleton.2 rfl)))
      rw [List.length_append] at k1
      refine GN ?_
      refine G_draw (.q 0 (.q 1 (.q 2 (.q 3 (.q 4 (.q 5 (.q 6 (.q 7 (.e 8 (.q 9 .nil)))))))))) (by kernel_rfl) (by kernel_rfl) ?_
      refine RQ rfl (ev_load rfl LdA) ?_
      (first | refine RM rfl (ev_nilCheck rfl) ?_ | refine RM rfl (ev_nilCheckF (by simp) rfl) ?_)
      refine RM rfl (ev_fieldAddr rfl) ?_
      refine RQ rfl (ev_load rfl LdA) ?_
      refine RQ rfl (ev_load rfl LdA) ?_
      (first | refine RM rfl (ev_lssN rfl rfl) ?_ | refine RM rfl (ev_lss rfl rfl) ?_)
      refine RM rfl (ev_move rfl) ?_
      refine RS_q_yes retB_noPanic rfl rfl rfl rfl ⟨_, rfl, (decide_eq_true (by omega))⟩ rfl (ev_load rfl LdA) ?_
      refine RS_e (RE_cmp_yes (by kernel_rfl) rfl rfl rfl ⟨_, rfl, (decide_eq_true (by omega))⟩ rfl (eff_call rfl (Ctr.frame [blk b8 121 [.pointer (some ⟨bw, 0, none⟩)], blk b4 3 [.int .i64 (k : Nat)], F] (wstep_ctr X bw s j l0 x st1 L L0 hX hM k3.1 k3.2 (by omega) (by omega)) EpA)) ?_); rintro _ _ ⟨_, ⟨rfl, rfl⟩, rfl⟩
      refine RM rfl (ev_pick_t rfl (decide_eq_true (by omega)) rfl) ?_
      refine RS_nil ?_
      refine GN ?_
      refine G_cond_t rfl rfl ?_
      refine GN ?_
      exact G_round (l0 ++ (X.kids x).reverse, X.upd x st1, j + 1) ⟨by simp only; omega, by simp only; omega, by simp only; rw [show r - (j + 1) = r' by omega]; exact e2⟩ (by simp only; omega) ⟨rfl, rfl, trivial⟩ EpA
  · skip
    refine GN ?_
    refine G_draw (.q 0 (.q 1 (.q 2 (.q 3 (.q 4 (.q 5 (.q 6 (.q 7 (.e 8 (.q 9 .nil)))))))))) (by kernel_rfl) (by kernel_rfl) ?_
    refine RQ rfl (ev_load rfl LdA) ?_
    (first | refine RM rfl (ev_nilCheck rfl) ?_ | refine RM rfl (ev_nilCheckF (by simp) rfl) ?_)
    refine RM rfl (ev_fieldAddr rfl) ?_
    refine RQ rfl (ev_load rfl LdA) ?_
    refine RQ rfl (ev_load rfl LdA) ?_
    (first | refine RM rfl (ev_lssN rfl rfl) ?_ | refine RM rfl (ev_lss rfl rfl) ?_)
    refine RM rfl (ev_move rfl) ?_
    refine RS_q_no retB_noPanic rfl rfl rfl ⟨_, rfl, (decide_eq_false (by omega))⟩ rfl ?_
    refine RS_e (RE_no rfl rfl rfl ⟨_, rfl, (decide_eq_false (by omega))⟩ rfl ?_)
    refine RM rfl (ev_pick_f rfl (decide_eq_false (by omega)) rfl) ?_
    refine RS_nil ?_
    refine GN ?_
    refine G_cond_f rfl rfl ?_
    refine GN ?_
    have e : min k r = j := by omega
    refine G_end (L' := blk b8 121 [.pointer (some ⟨bw, 0, none⟩)] :: blk b4 3 [.int .i64 (k : Nat)] :: blk bw 123 (wkC X s j) :: stkS s 65536 l1 :: X.V st1 :: L) rfl .nil EpA ?_
    rw [e]
    exact ⟨l1, st1, f3, rfl⟩
theorem Walk_ctr {S : Type} (X : Vis S) (s k r : Nat) (l : List PR) (st : S) (L L0 : List HP) (hX : X.Good L0) (hM : ∀ h, sat L h → sat L0 h) (hI : X.I l st r) (hk : r ≤ 100000000) :
    Ctr Tryz.prog 53 #[.pointer (some ⟨s, 0, none⟩), .int .i64 (k : Nat), .func (.func X.f) X.c1.toArray X.c2.toArray] (stkS s 65536 l :: X.V st :: L)
      fun v L' => ∃ l' st', v = .tuple #[.int .i64 (min k r : Nat), .int .i64 0] ∧ X.I l' st' (r - min k r) ∧ L' = stkS s 65536 l' :: X.V st' :: L := by
  refine Ctr_of (fn := Tryz.f53) (n := 36) Tryz.func53 rfl rfl rfl ?_
  intro g F
  refine GN ?_
  refine G_region ?_
  refine GE (eff_box rfl) ?_; rintro _ _ ⟨b4, rfl, rfl⟩
  refine GQ (ev_assign rfl) ?_
  refine GQ (ev_assign rfl) ?_
  refine GO_nil ?_
  refine GN ?_
  refine G_region ?_
  refine GQ (ev_move rfl) ?_
  (first | refine GQ (ev_eqlNil rfl rfl) ?_ | refine GQ (ev_eqlPtr rfl rfl) ?_)
  refine GQ (ev_move rfl) ?_
  refine GO_yes rfl rfl rfl rfl ?_
  refine GQ (ev_move rfl) ?_
  refine GO_yes rfl rfl rfl rfl ?_
  refine GQ (ev_eqlNilF rfl rfl) ?_
  refine GQ (ev_pick_f rfl rfl rfl) ?_
  refine GQ (ev_move rfl) ?_
  refine GO_yes rfl rfl rfl rfl ?_
  refine GQ (ev_load rfl LdA) ?_
  refine GO_yes rfl rfl rfl rfl ?_
  (first | refine GQ (ev_lssN (q := 0) rfl rfl) ?_ | refine GQ (ev_lss rfl rfl) ?_)
  refine GQ (ev_pick_f rfl rfl rfl) ?_
  refine GO_nil ?_
  refine GN ?_
  refine G_cond_f rfl (decide_eq_false (by omega)) ?_
  refine GN ?_
  refine G_region ?_
  refine GQ (ev_move rfl) ?_
  refine GQ (ev_move rfl) ?_
  refine GQ (ev_build rfl rfl) ?_
  refine GE (eff_box rfl) ?_; rintro _ _ ⟨b24, rfl, rfl⟩
  refine GE eff_alloc ?_; rintro _ _ ⟨b8, rfl, rfl⟩
  refine GE (eff_store rfl rfl rfl UpA) ?_; rintro _ _ ⟨rfl, rfl⟩
  refine GO_nil ?_
  refine GN ?_
  refine G_region ?_
  refine GQ (ev_makeFunc rfl rfl) ?_
  refine GE (eff_call rfl (Ctr.frame [F] (Catch_ctr (c1 := []) (c2 := [.pointer (some ⟨b8, 0, none⟩), .pointer (some ⟨b4, 0, none⟩)]) (walk1_ctr X b8 b4 b24 s k r l st L L0 hX hM hI hk)) EpA)) ?_; rintro _ _ ⟨_, ⟨rfl, l', st', hI', rfl⟩, rfl⟩
  refine GQ (ev_move rfl) ?_
  refine GQ (ev_extract rfl rfl) ?_
  refine GQ (ev_extract rfl rfl) ?_
  refine GE eff_alloc ?_; rintro _ _ ⟨b9, rfl, rfl⟩
  refine GE (eff_storeN rfl rfl rfl rfl UpA) ?_; rintro _ _ ⟨rfl, rfl⟩
  refine GQ (ev_assign rfl) ?_
  refine GO_nil ?_
  refine GN ?_
  refine G_draw (.q 0 (.q 1 (.q 2 (.q 3 (.q 4 (.q 5 (.q 6 (.q 7 .nil)))))))) (by kernel_rfl) (by kernel_rfl) ?_
  refine RQ rfl (ev_load rfl LdA) ?_
  (first | refine RM rfl (ev_nilCheck rfl) ?_ | refine RM rfl (ev_nilCheckF (by simp) rfl) ?_)
  refine RM rfl (ev_fieldAddr rfl) ?_
  refine RQ rfl (ev_load rfl LdA) ?_
  refine RM rfl (ev_fieldAddr rfl) ?_
  refine RQ rfl (ev_load rfl LdA) ?_
  refine RM rfl (ev_assign rfl) ?_
  refine RM rfl (ev_assign rfl) ?_
  refine RS_nil ?_
  refine GN ?_
  exact G_ret (L' := stkS s 65536 l' :: X.V st' :: L) rfl (.tmp rfl (.tmp rfl .nil)) EpA ⟨l', st', rfl, hI', rfl⟩
end Go.Proofs.YtkoncepjfgnjlaaGreat
/- A tree of lists that lead into one another: all that is found. -/
namespace Go.Proofs.YtkoncepjfgnjlaaGreat
attribute [local irreducible] sat
set_option linter.unusedVariables false
set_option linter.unusedSimpArgs false
set_option maxRecDepth 100000

def RT.cnt : RT → Nat
  | .nil => 1
  | .node _ _ _ _ _ lo hi => lo.cnt + hi.cnt + 1
def wtR (xs : List RT) : Nat := (xs.map RT.cnt).sum
theorem wtR_mem {x : RT} {xs : List RT} (h : x ∈ xs) : x.cnt ≤ wtR xs := by
  induction xs with
  | nil => cases h
  | cons a xs ih =>
    simp only [wtR, List.map_cons, List.sum_cons]
    rcases List.mem_cons.1 h with rfl | h
    · omega
    · have := ih h; unfold wtR at this; omega
theorem nxt_wtR (b : Bx) (x : RT) : wtR (x.nxt b) < x.cnt := by
  cases x with
  | nil => simp [RT.nxt, RT.out, wtR, RT.cnt]
  | node c q a u v lo hi =>
    unfold RT.nxt
    split
    · simp [wtR, RT.cnt]
    · split
      · simp [wtR, RT.cnt]
      · simp only [wtR, RT.cnt, List.map_cons, List.map_nil, List.sum_cons, List.sum_nil]; omega
theorem RIn.nxt {L : List HP} {b : Bx} {x : RT} (h : RIn L x) : ∀ y ∈ x.nxt b, RIn L y := fun y hy => by
  cases x with
  | nil => simp [RT.nxt, RT.out] at hy
  | node c q a u v lo hi =>
    unfold RT.nxt at hy
    split at hy
    · cases hy
    · split at hy
      · cases hy
      · simp at hy
        rcases hy with rfl | rfl
        · exact h.2.2.1
        · exact h.2.2.2
/-- A tree as it should be. -/
def RT.good (x : RT) : Prop := ∃ l, x.of l ∧ AscO Pt.less l
def RT.sz (x : RT) : Nat := x.arr.es.length
def spR (xs : List RT) : Nat := (xs.map RT.sz).sum
theorem RT.good.nxt {b : Bx} {x : RT} (h : x.good) : (∀ y ∈ x.nxt b, y.good) ∧ spR (x.nxt b) ≤ x.sz := by
  obtain ⟨l, h1, h2⟩ := h
  cases x with
  | nil => simp [RT.nxt, RT.out, spR]
  | node c q a u v lo hi =>
    by_cases c1 : (RT.node c q a u v lo hi).out b = true
    · simp [RT.nxt, c1, spR]
    by_cases c2 : (RT.node c q a u v lo hi).ins b = true
    · simp [RT.nxt, c1, c2, spR]
    obtain ⟨j1, j2, _⟩ := RT.nxt_join h1 (by simpa using c1) (by simpa using c2)
    have e : (RT.node c q a u v lo hi).nxt b = [lo, hi] := by simp [RT.nxt, c1, c2]
    have n1 := j1.len
    have n2 := j2.len
    have n3 : a.es.length = l.length := h1.len
    rw [e]
    refine ⟨fun y hy => ?_, ?_⟩
    · simp at hy
      rcases hy with rfl | rfl
      · exact ⟨_, j1, h2.sub (List.take_sublist _ _)⟩
      · exact ⟨_, j2, h2.sub (List.drop_sublist _ _)⟩
    · simp only [spR, List.map_cons, List.map_nil, List.sum_cons, List.sum_nil, RT.sz]
      rw [n1, n2, List.length_take, List.length_drop]
      show _ ≤ a.es.length
      omega
theorem RT.good.fnd_len {b : Bx} (hy : b.y1 ≤ b.y2) {x : RT} (h : x.good) : (x.fnd b).length ≤ x.sz := by
  obtain ⟨l, h1, h2⟩ := h
  have := h1.fnd_len hy h2
  have := h1.len
  unfold RT.sz; omega
theorem fndR_len {b : Bx} (hy : b.y1 ≤ b.y2) : ∀ {xs : List RT}, (∀ x ∈ xs, x.good) → (fndR b xs).length ≤ spR xs
  | [], h => Nat.zero_le _
  | y :: ys, h => by
    have a := (h y (by simp)).fnd_len hy
    have c := fndR_len hy (xs := ys) fun x hx => h x (List.mem_cons_of_mem _ hx)
    unfold fndR spR at *
    rw [List.flatMap_cons, List.length_append, List.map_cons, List.sum_cons]; omega
theorem spR_take (xs : List RT) (k : Nat) : spR (xs.take k) ≤ spR xs := by
  have : spR (xs.take k) + spR (xs.drop k) = spR xs := by unfold spR; rw [← List.sum_append_nat, ← List.map_append, List.take_append_drop]
  omega
theorem spR_mem {x : RT} {xs : List RT} (h : x ∈ xs) : x.sz ≤ spR xs := by
  induction xs with
  | nil => cases h
  | cons a xs ih =>
    simp only [spR, List.map_cons, List.sum_cons]
    rcases List.mem_cons.1 h with rfl | h
    · omega
    · have := ih h; unfold spR at this; omega
theorem fndR_take {b : Bx} {xs : List RT} {k : Nat} {x : RT} (h : xs[k]? = some x) : fndR b (xs.take (k + 1)) = fndR b (xs.take k) ++ x.fnd b := by
  unfold fndR
  rw [List.take_add_one, h]
  simp
theorem partsR_len (b : Bx) (xs : List RT) : (partsR b xs).length = xs.length := List.length_map _
theorem all_ctr (b : Bx) : ∀ (N : Nat) (xs : List RT) (A : Option Addr) (n c : Nat) (L : List HP), wtR xs = N → (∀ x ∈ xs, x.good) → spR xs ≤ 100000 → (b.y1 ≤ b.y2 ∨ ∀ x ∈ xs, x = .nil) → n ≤ 100000 → (∀ x ∈ xs, RIn L x) → Rd L A n (partsR b xs) →
    Ctr Tryz.prog 78 #[.agg #[.int .i64 b.x1, .int .i64 b.x2, .int .i64 b.y1, .int .i64 b.y2], .slice A n c] L fun r L' => ∃ A1 c1, r = .tuple #[.slice A1 (fndR b xs).length c1, .int .i64 ((fndR b xs).length : Nat)] ∧ (0 < (fndR b xs).length → ∃ b, A1 = some ⟨b, 0, none⟩) ∧ L' = own 3 1 A1 (fndR b xs).length c1 (flat (fndR b xs)) :: L := by
  intro N
  induction N using Nat.strongRecOn with
  | _ N ih =>
  intro xs A n c L hN hok hm hy hn hin hr
  have h1 : xs.length = n := by rw [← partsR_len b]; exact hr.len (by decide)
  refine Ctr_of (fn := Tryz.f78) (n := 45) Tryz.func78 rfl rfl rfl ?_
  intro g F
  refine GN ?_
  refine G_region ?_
  refine GE (eff_box rfl) ?_; rintro _ _ ⟨b2, rfl, rfl⟩
  refine GQ (ev_assign rfl) ?_
  refine GQ (ev_assign rfl) ?_
  refine GO_nil ?_
  refine GN ?_
  refine G_region ?_
  refine GQ (ev_move rfl) ?_
  refine GQ (ev_len rfl) ?_
  refine GQ (ev_move rfl) ?_
  refine GO_nil ?_
  refine GN ?_
  refine G_heap (own.nil_ 3 1) ?_
  refine G_loop (ι := Nat × Option Addr × Nat × List Int) (fun z => [(2, .pointer (some ⟨b2, 0, none⟩)), (4, .slice z.2.1 z.2.2.2.length z.2.2.1), (5, .int .i64 (z.2.2.2.length : Nat)), (13, .slice A n c), (14, .int .i64 (n : Nat)), (15, .int .i64 (z.1 : Nat))]) (fun z => own 3 1 z.2.1 z.2.2.2.length z.2.2.1 (flat z.2.2.2) :: blk b2 35 [.int .i64 b.x1, .int .i64 b.x2, .int .i64 b.y1, .int .i64 b.y2] :: F :: L) (fun z => z.1 ≤ n ∧ z.2.2.2 = fndR b (xs.take z.1) ∧ (0 < z.2.2.2.length → ∃ b, z.2.1 = some ⟨b, 0, none⟩)) (fun z => n - z.1) (0, none, 0, []) ⟨Nat.zero_le _, by simp [fndR], fun h => absurd h (Nat.lt_irrefl 0)⟩ ⟨rfl, rfl, rfl, rfl, rfl, rfl, trivial⟩ EnA ?_
  rintro ⟨k, A1, c1, zs⟩ ⟨f1, f2, f3⟩
  simp only at f1 f2 f3
  dsimp only
  refine GN ?_
  refine G_region ?_
  (first | refine GQ (ev_lssN rfl rfl) ?_ | refine GQ (ev_lss rfl rfl) ?_)
  refine GO_nil ?_
  refine GN ?_
  refine G_cond rfl (fun h4 => ?_) (fun h4 => ?_)
  · obtain ⟨lb, lo, rfl, hx2⟩ := hr.at_ (by omega)
    have g1 : xs[k]? = some xs[k] := List.getElem?_eq_getElem (by omega)
    have g2 : (partsR b xs)[k]? = some (prOf b xs[k]) := by simp [partsR, g1]
    have y1 := hx2 _ _ g2
    have hk := fndR_take (b := b) g1
    have hmem : xs[k] ∈ xs := List.getElem_mem _
    have hink := hin _ hmem
    have hokk := hok _ hmem
    have hsm := spR_mem hmem
    have hwm := wtR_mem hmem
    have hwn := nxt_wtR b xs[k]
    have hfe := xs[k].fnd_eq b
    have hynx : b.y1 ≤ b.y2 ∨ ∀ x ∈ xs[k].nxt b, x = .nil := hy.imp id fun h => by rw [h _ hmem]; simp [RT.nxt, RT.out]
    have hzl : (fndR b (xs.take (k + 1))).length ≤ 100000 := by
      rcases hy with hy | hy
      · have := fndR_len hy (xs := xs.take (k + 1)) fun x hx => hok x (List.mem_of_mem_take hx)
        have := spR_take xs (k + 1)
        omega
      · have : fndR b (xs.take (k + 1)) = [] := List.flatMap_eq_nil_iff.2 fun x hx => by rw [hy x (List.mem_of_mem_take hx)]; rfl
        rw [this]; exact Nat.zero_le _
    generalize xs[k] = x at *
    have z1 : LdN L lb (lo + k * 3) 3 [.pointer x.addr, .int .i64 (x.arr.pts.countP (belowF b.y1) : Nat), .int .i64 (x.arr.pts.countP (upToF b.y2) : Nat)] := y1
    obtain ⟨hokn, hsn⟩ := hokk.nxt (b := b)
    obtain ⟨l, o1, o2⟩ := hokk
    have hll : x.sz = l.length := o1.len
    have hl := fun M h => plook_ctr x b l M h o1 (by omega)
    have hnl : (x.nxt b).length ≤ 2 := by rw [x.nxt_len]; split <;> omega
    rw [hk, hfe, List.length_append, List.length_append, ← f2] at hzl
    refine GN ?_
    refine G_region ?_
    (first | refine GQ (ev_indexAddrN rfl rfl NgA) ?_ | refine GQ (ev_indexAddr rfl rfl NgA NgA) ?_)
    refine GQ (ev_loadN rfl LnA) ?_
    refine GE eff_alloc ?_; rintro _ _ ⟨b7, rfl, rfl⟩
    refine GE (eff_storeN rfl rfl rfl rfl UpA) ?_; rintro _ _ ⟨rfl, rfl⟩
    refine GO_nil ?_
    refine GN ?_
    refine G_region ?_
    refine GQ (ev_loadN rfl LnA) ?_
    refine GQ (ev_loadN rfl LnA) ?_
    refine GE (eff_call rfl (Ctr.frame [_, _, _, _] (hl L hink) (fun _ s => s))) ?_; rintro _ _ ⟨L1, ⟨A2, c2, A3, c3, N1, rfl, rfl, m1, m2, m3, m4, m5⟩, rfl⟩
    refine GQ (ev_move rfl) ?_
    refine GQ (ev_extract rfl rfl) ?_
    refine GQ (ev_extract rfl rfl) ?_
    refine GQ (ev_extract rfl rfl) ?_
    refine GQ (ev_assign rfl) ?_
    refine GQ (ev_assign rfl) ?_
    refine GQ (ev_assign rfl) ?_
    refine GO_nil ?_
    refine GN ?_
    refine G_region ?_
    refine GQ (ev_loadN rfl LnA) ?_
    refine GQ (ev_move rfl) ?_
    refine GE (eff_call rfl (Ctr.frame [_, _, _, _] (ih (wtR (x.nxt b)) (by omega) (x.nxt b) A3 _ c3 (N1 ++ L) rfl hokn (by omega) hynx (by omega) (fun y hy => (hink.nxt y hy).app) m2) (fun _ s => s))) ?_; rintro _ _ ⟨L2, ⟨A4, c4, rfl, hA4, rfl⟩, rfl⟩
    refine GQ (ev_move rfl) ?_
    refine GQ (ev_extract rfl rfl) ?_
    refine GQ (ev_extract rfl rfl) ?_
    refine GQ (ev_assign rfl) ?_
    refine GQ (ev_assign rfl) ?_
    refine GO_nil ?_
    refine GN ?_
    refine G_region ?_
    refine GQ (ev_move rfl) ?_
    refine GQ (ev_move rfl) ?_
    refine GE (eff_append rfl rfl PkA ((by repeat' first | exact m1 | apply Rc.skip | apply Rc.app)) ((flat_one _)) (by rfl) (by decide) NgA NgA) ?_; rintro _ _ ⟨A5, c5, rfl, hc5, hm5, hn5, rfl⟩
    refine GQ (ev_move rfl) ?_
    refine GE (eff_append rfl rfl PkA ((by repeat' first | exact Rc.own (flat_length _) hA4 | apply Rc.skip)) ((flat_one _)) (by rfl) (by decide) NgA NgA) ?_; rintro _ _ ⟨A6, c6, rfl, hc6, hm6, hn6, rfl⟩
    refine GQ (ev_move rfl) ?_
    refine GQ (ev_move rfl) ?_
    (first | refine GQ (ev_addN rfl rfl NgA) ?_ | refine GQ (ev_add rfl rfl NgA) ?_)
    refine GQ (ev_move rfl) ?_
    (first | refine GQ (ev_addN rfl rfl NgA) ?_ | refine GQ (ev_add rfl rfl NgA) ?_)
    refine GQ (ev_assign rfl) ?_
    refine GQ (ev_assign rfl) ?_
    refine GO_nil ?_
    refine GN ?_
    refine G_region ?_
    (first | refine GQ (ev_addN (q := 1) rfl rfl NgA) ?_ | refine GQ (ev_add rfl rfl NgA) ?_)
    refine GQ (ev_move rfl) ?_
    refine GO_nil ?_
    refine GN ?_
    have e9 : fndR b (xs.take (k + 1)) = (zs ++ x.ids b) ++ fndR b (x.nxt b) := by rw [hk, hfe, f2, List.append_assoc]
    exact G_round (k + 1, A6, c6, (zs ++ x.ids b) ++ fndR b (x.nxt b)) ⟨by simp only; omega, e9.symm, by simp only [List.length_append]; exact hn6⟩ (by simp only; omega) ⟨rfl, by simp only [List.length_append]; rfl, by simp only [List.length_append]; rw [show (((zs.length + (x.ids b).length + (fndR b (x.nxt b)).length : Nat)) : Int) = (zs.length : Int) + ((x.ids b).length : Int) + ((fndR b (x.nxt b)).length : Int) by omega]; rfl, rfl, rfl, rfl, trivial⟩ (by
      simp only [List.length_append, flat_append]
      exact EpA)
  · have e : xs.take k = xs := List.take_of_length_le (by omega)
    rw [e] at f2
    subst f2
    refine GN ?_
    refine G_region ?_
    refine GQ (ev_move rfl) ?_
    refine GQ (ev_move rfl) ?_
    refine GQ (ev_assign rfl) ?_
    refine GQ (ev_assign rfl) ?_
    refine GO_nil ?_
    refine GN ?_
    exact G_ret (L' := own 3 1 A1 (fndR b xs).length c1 (flat (fndR b xs)) :: L) rfl (.tmp rfl (.tmp rfl .nil)) EpA ⟨A1, c1, rfl, f3, rfl⟩
end Go.Proofs.YtkoncepjfgnjlaaGreat
/- A cursor over trees of lists: what is still to come (the plain part). -/
namespace Go.Proofs.YtkoncepjfgnjlaaGreat
set_option linter.unusedVariables false
set_option linter.unusedSimpArgs false

/-- At how many parts one looks. -/
def RT.lk (b : Bx) : RT → Nat
  | .nil => 1
  | .node c q a u v lo hi => if (RT.node c q a u v lo hi).mid b then lo.lk b + hi.lk b + 1 else 1
def lkR (b : Bx) (xs : List RT) : Nat := (xs.map (RT.lk b)).sum
theorem lkR_app (b : Bx) (xs ys : List RT) : lkR b (xs ++ ys) = lkR b xs + lkR b ys := by unfold lkR; rw [List.map_append, List.sum_append_nat]
theorem lkR_rev (b : Bx) (xs : List RT) : lkR b xs.reverse = lkR b xs := ((List.reverse_perm xs).map _).sum_nat
theorem RT.lk_eq (b : Bx) (x : RT) : x.lk b = 1 + lkR b (x.nxt b) := by
  cases x with
  | nil => simp [RT.lk, RT.nxt, RT.out, lkR]
  | node c q a u v lo hi =>
    unfold RT.lk RT.nxt RT.mid
    by_cases h1 : (RT.node c q a u v lo hi).out b = true
    · simp [h1, lkR]
    · by_cases h2 : (RT.node c q a u v lo hi).ins b = true
      · simp [h1, h2, lkR]
      · simp [h1, h2, lkR]; omega
theorem lkR_len (b : Bx) : ∀ xs : List RT, xs.length ≤ lkR b xs
  | [] => Nat.le_refl _
  | x :: xs => by
    have h1 := lkR_len b xs
    have h2 := x.lk_eq b
    simp only [lkR, List.map_cons, List.sum_cons, List.length_cons] at h1 ⊢
    omega
theorem lkR_nxt (b : Bx) : ∀ xs : List RT, lkR b xs = xs.length + lkR b (nxtR b xs)
  | [] => rfl
  | x :: xs => by
    have h1 := lkR_nxt b xs
    have h2 := x.lk_eq b
    have h3 : lkR b (nxtR b (x :: xs)) = lkR b (x.nxt b) + lkR b (nxtR b xs) := by
      unfold nxtR; rw [List.flatMap_cons, lkR_app]
    have h4 : lkR b (x :: xs) = x.lk b + lkR b xs := by simp [lkR]
    rw [h4, h3, List.length_cons, h2, h1]; omega
theorem Chn.lk (b : Bx) : ∀ (k : Nat) {xs : List RT} {m : Int}, Chn m xs → (∀ x ∈ xs, x.lv ≤ k) → lkR b xs ≤ xs.length + 4 * k
  | 0, xs, m, h, hl => by rw [lkR_nxt, nxtR_zero b xs hl]; simp [lkR]
  | k + 1, xs, m, h, hl => by
    have h1 := (h.nxt b).lk b k (nxtR_lv b xs k hl)
    have h2 := h.four (b := b)
    rw [lkR_nxt]; omega
theorem fndR_app (b : Bx) (xs ys : List RT) : fndR b (xs ++ ys) = fndR b xs ++ fndR b ys := by unfold fndR; rw [List.flatMap_append]
theorem partsR_rev (b : Bx) (xs : List RT) : partsR b xs.reverse = (partsR b xs).reverse := List.map_reverse
/-- What is told of the next ones: what is found, in order; how many. -/
structure RcI (b : Bx) (tot : List Int) (L0 : List HP) (l : List PR) (ids : List Int) (r : Nat) : Prop where
  e : ∃ xs : List RT, l = partsR b xs ∧ r = lkR b xs ∧ (∀ x ∈ xs, RIn L0 x ∧ ∃ l, x.of l ∧ l.length ≤ 1000) ∧ ids ++ fndR b xs.reverse = tot
  small : r ≤ 60000
theorem partsR_snoc {b : Bx} {xs : List RT} {l : List PR} {x : PR} (h : l ++ [x] = partsR b xs) : ∃ ys y, xs = ys ++ [y] ∧ l = partsR b ys ∧ x = prOf b y := by
  rcases List.eq_nil_or_concat xs with e | ⟨ys, y, e⟩
  · subst e
    have := congrArg List.length h
    simp [partsR] at this
  · rw [List.concat_eq_append] at e
    subst e
    rw [show partsR b (ys ++ [y]) = partsR b ys ++ [prOf b y] from List.map_append] at h
    have := List.append_inj' h rfl
    exact ⟨ys, y, rfl, this.1, by simpa using this.2⟩
theorem RcI.next {b : Bx} {tot : List Int} {L0 : List HP} {l : List PR} {x : PR} {ids : List Int} {r : Nat} (h : RcI b tot L0 (l ++ [x]) ids r) :
    ∃ r', r = r' + 1 ∧ RcI b tot L0 (l ++ (partsR b (x.T.nxt b)).reverse) (ids ++ x.T.ids b) r' := by
  obtain ⟨xs, h1, h2, h3, h4⟩ := h.e
  have hs := h.small
  obtain ⟨ys, y, rfl, rfl, rfl⟩ := partsR_snoc h1
  have e1 : lkR b (ys ++ [y]) = lkR b ys + (1 + lkR b (y.nxt b)) := by rw [lkR_app, ← y.lk_eq]; simp [lkR]
  obtain ⟨x1, q, x2, x3⟩ := h3 y (List.mem_append.2 (.inr (List.mem_singleton.2 rfl)))
  refine ⟨lkR b ys + lkR b (y.nxt b), by omega, ⟨ys ++ (y.nxt b).reverse, ?_, by rw [lkR_app, lkR_rev], fun z hz => ?_, ?_⟩, by omega⟩
  · rw [← partsR_rev]; exact List.map_append.symm
  · rcases List.mem_append.1 hz with hz | hz
    · exact h3 z (List.mem_append.2 (.inl hz))
    · have hz := List.mem_reverse.1 hz
      refine ⟨x1.nxt z hz, ?_⟩
      cases y with
      | nil => simp [RT.nxt, RT.out] at hz
      | node c p a u v lo hi =>
        by_cases c1 : (RT.node c p a u v lo hi).out b = true
        · simp [RT.nxt, c1] at hz
        by_cases c2 : (RT.node c p a u v lo hi).ins b = true
        · simp [RT.nxt, c1, c2] at hz
        obtain ⟨j1, j2, _⟩ := RT.nxt_join x2 (by simpa using c1) (by simpa using c2)
        simp [RT.nxt, c1, c2] at hz
        rcases hz with rfl | rfl
        · exact ⟨_, j1, by rw [List.length_take]; omega⟩
        · exact ⟨_, j2, by rw [List.length_drop]; omega⟩
  · rw [← h4, List.reverse_append, List.reverse_reverse, List.reverse_append, List.reverse_singleton, fndR_app, fndR_app]
    have : fndR b [y] = y.fnd b := by simp [fndR]
    rw [this, y.fnd_eq b]
    show ids ++ y.ids b ++ _ = _
    simp only [List.append_assoc]
theorem RcI.done {b : Bx} {tot : List Int} {L0 : List HP} {l : List PR} {ids : List Int} {r : Nat} (hI : RcI b tot L0 l ids r) : (l.length : Int) = 0 ↔ r = 0 := by
  obtain ⟨xs, rfl, h2, h3, h4⟩ := hI.e
  have h5 := lkR_len b xs
  rw [partsR_len]
  constructor
  · intro h
    have : xs = [] := List.eq_nil_of_length_eq_zero (by omega)
    subst this
    rw [h2]; rfl
  · intro h; omega
theorem RcI.end_ {b : Bx} {tot : List Int} {L0 : List HP} {l : List PR} {ids : List Int} (hI : RcI b tot L0 l ids 0) : l = [] ∧ ids = tot := by
  have h1 : l = [] := List.eq_nil_of_length_eq_zero (by have := hI.done.2 rfl; omega)
  subst h1
  obtain ⟨xs, h1, h2, h3, h4⟩ := hI.e
  have : xs = [] := by
    cases xs with
    | nil => rfl
    | cons => simp [partsR] at h1
  subst this
  exact ⟨rfl, by simpa [fndR] using h4⟩
theorem RcI.len {b : Bx} {tot : List Int} {L0 : List HP} {l : List PR} {ids : List Int} {r : Nat} (h : RcI b tot L0 l ids r) (hb : tot.length ≤ 1000000) : ids.length ≤ 1000000 := by
  obtain ⟨xs, _, _, _, h4⟩ := h.e
  have := congrArg List.length h4
  rw [List.length_append] at this
  omega
theorem RcI.cap {b : Bx} {tot : List Int} {L0 : List HP} {l : List PR} {ids : List Int} {r : Nat} (h : RcI b tot L0 l ids r) : l.length ≤ 60000 ∧ ∀ x ∈ l, (∃ l, x = prOf b x.T ∧ RIn L0 x.T ∧ x.T.of l ∧ l.length ≤ 1000) ∧ (partsR b (x.T.nxt b)).length ≤ 2 := by
  obtain ⟨xs, rfl, h2, h3, h4⟩ := h.e
  have h5 := lkR_len b xs
  have h6 := h.small
  refine ⟨by rw [partsR_len]; omega, fun x hx => ?_⟩
  obtain ⟨y, hy, rfl⟩ := List.mem_map.1 hx
  obtain ⟨x1, q, x2, x3⟩ := h3 y hy
  refine ⟨⟨q, rfl, x1, x2, x3⟩, ?_⟩
  rw [partsR_len]
  show (y.nxt b).length ≤ 2
  rw [y.nxt_len]; split <;> omega
end Go.Proofs.YtkoncepjfgnjlaaGreat
/- A cursor over trees of lists: what lies in memory. -/
namespace Go.Proofs.YtkoncepjfgnjlaaGreat
set_option linter.unusedVariables false
set_option linter.unusedSimpArgs false

theorem ev_max0 {P : Program} {L : List HP} {σ : Env} {d : Option Nat} {ty : TypeId} {ts : Array TypeId} {pos : String} {aft : Array Edge} {gd : Option (Nat × Bool)} {x : Operand} {p : Int} (hx : ev σ x = some (.int .i64 p)) :
    Ev P L σ ⟨d, .call ⟨.builtin .max, #[x, .const (.int .i64 0)], ts⟩, ty, pos, aft, gd⟩ (.int .i64 (p.toNat : Nat)) := by
  have h := ev_max (P := P) (L := L) (d := d) (ty := ty) (ts := ts) (pos := pos) (aft := aft) (gd := gd) (x := x) (y := .const (.int .i64 0)) hx rfl
  have e : max p 0 = ((p.toNat : Nat) : Int) := by omega
  rwa [e] at h
/-- What is kept of the ids: all, or none. -/
def kp (wh : Bool) (ids : List Int) : List Int := if wh then ids else []
@[reducible] def rcC (s : Nat) (b : Bx) (wh : Bool) (A : Option Addr) (m c j k : Nat) : List Value := [.pointer (some ⟨s, 0, none⟩), .int .i64 b.x1, .int .i64 b.x2, .int .i64 b.y1, .int .i64 b.y2, .bool wh, .slice A m c, .int .i64 (j : Nat), .int .i64 (k : Nat)]
def rcS (a s : Nat) (b : Bx) (wh : Bool) (ids : List Int) (k : Nat) : HP := fun h => ∃ y : Option Addr × Nat, (0 < (kp wh ids).length → ∃ b, y.1 = some ⟨b, 0, none⟩) ∧ sat [blk a 87 (rcC s b wh y.1 (kp wh ids).length y.2 ids.length k), own 3 1 y.1 (kp wh ids).length y.2 (flat (kp wh ids))] h
theorem rc_open {a s k : Nat} {b : Bx} {wh : Bool} {ids : List Int} {M : List HP} {hm : Hm} (h : sat (rcS a s b wh ids k :: M) hm) : ∃ A c, (0 < (kp wh ids).length → ∃ b, A = some ⟨b, 0, none⟩) ∧ (kp wh ids).length ≤ c ∧ c ≤ maxLen ∧ sat (blk a 87 (rcC s b wh A (kp wh ids).length c ids.length k) :: own 3 1 A (kp wh ids).length c (flat (kp wh ids)) :: M) hm := by
  obtain ⟨h1, h2, d, s1, s2, ⟨⟨A, c⟩, hA, q⟩, t⟩ := h
  have q0 := own.facts (L := []) q.tail
  exact ⟨A, c, hA, q0.2.1, q0.2.2.1, sat.head (A := fun h => h = h1) (N := [blk a 87 (rcC s b wh A (kp wh ids).length c ids.length k), own 3 1 A (kp wh ids).length c (flat (kp wh ids))]) (fun _ e => e ▸ q) ⟨h1, h2, d, s1, s2, rfl, t⟩⟩
theorem Ctr.rc {P : Program} {f : FuncId} {args : Array Value} {L : List HP} {a s k : Nat} {b : Bx} {wh : Bool} {ids : List Int} {post : Value → List HP → Prop}
    (C : ∀ A c, (0 < (kp wh ids).length → ∃ b, A = some ⟨b, 0, none⟩) → (kp wh ids).length ≤ c → c ≤ maxLen → Ctr P f args (blk a 87 (rcC s b wh A (kp wh ids).length c ids.length k) :: own 3 1 A (kp wh ids).length c (flat (kp wh ids)) :: L) post) : Ctr P f args (rcS a s b wh ids k :: L) post := fun g F w hw => by
  obtain ⟨A, c, h1, h2, h3, h4⟩ := rc_open hw.s.swap
  exact C A c h1 h2 h3 g F w ⟨hw.g, h4.perm (List.perm_middle (l₁ := [_, _]))⟩
theorem G_rc {P : Program} {B : Exit → Act → World → Prop} {g : Glob} {N : Nat} {K : List Kt} {σ : Env} {L : List HP} {a s k : Nat} {b : Bx} {wh : Bool} {ids : List Int}
    (h : ∀ A c, (0 < (kp wh ids).length → ∃ b, A = some ⟨b, 0, none⟩) → (kp wh ids).length ≤ c → c ≤ maxLen → G P B g N K σ (blk a 87 (rcC s b wh A (kp wh ids).length c ids.length k) :: own 3 1 A (kp wh ids).length c (flat (kp wh ids)) :: L)) : G P B g N K σ (rcS a s b wh ids k :: L) := fun a v hs hw => by
  obtain ⟨A, c, h1, h2, h3, h4⟩ := rc_open hw.s
  exact h A c h1 h2 h3 a v hs ⟨hw.g, h4⟩
theorem en_rc {L M : List HP} {a s c k : Nat} {A : Option Addr} {b : Bx} {wh : Bool} {ids : List Int} (hA : 0 < (kp wh ids).length → ∃ b, A = some ⟨b, 0, none⟩) (f : ∀ h, sat L h → sat (blk a 87 (rcC s b wh A (kp wh ids).length c ids.length k) :: own 3 1 A (kp wh ids).length c (flat (kp wh ids)) :: M) h) : ∀ h, sat L h → sat (rcS a s b wh ids k :: M) h := fun h t =>
  sat.fold (N := [_, _]) (fun h q => ⟨(A, c), hA, q⟩) (f h t)
@[reducible] def rcvis (a s : Nat) (b : Bx) (wh : Bool) (k : Nat) (tot : List Int) (L0 : List HP) : Vis (List Int) where
  V := fun st => rcS a s b wh st k
  ok := fun x st => (∃ l, x = prOf b x.T ∧ RIn L0 x.T ∧ x.T.of l ∧ l.length ≤ 1000) ∧ st.length ≤ 1000000
  kids := fun x => partsR b (x.T.nxt b)
  upd := fun x st => st ++ x.T.ids b
  f := 54
  c1 := [.pointer (some ⟨a, 0, none⟩)]
  c2 := []
  I := RcI b tot L0
end Go.Proofs.YtkoncepjfgnjlaaGreat
/- A tree of lists that lead into one another: New, and what a tree tells. -/
namespace Go.Proofs.YtkoncepjfgnjlaaGreat
attribute [local irreducible] sat
set_option linter.unusedVariables false
set_option linter.unusedSimpArgs false
set_option maxRecDepth 100000

/-- A tree that can be read. -/
structure TR (L : List HP) (t : Nat) (T : RT) (A : Option Addr) (c : Nat) (l : List Pt) : Prop where
  z : LdN L t 0 2 [.pointer T.addr, .slice A l.length c]
  i : RIn L T
  o : T.of l
  a : AscO Pt.less l
  r : Rd L A l.length l
  c1 : l.length ≤ c
  c2 : c ≤ maxLen
theorem TR.skip {X : HP} {L : List HP} {t : Nat} {T : RT} {A : Option Addr} {c : Nat} {l : List Pt} (h : TR L t T A c l) : TR (X :: L) t T A c l := ⟨h.z.skip, h.i.skip, h.o, h.a, h.r.skip, h.c1, h.c2⟩
theorem TR.app {N L : List HP} {t : Nat} {T : RT} {A : Option Addr} {c : Nat} {l : List Pt} (h : TR L t T A c l) : TR (N ++ L) t T A c l := ⟨h.z.app, h.i.app, h.o, h.a, h.r.app, h.c1, h.c2⟩
theorem TR.good {L : List HP} {t : Nat} {T : RT} {A : Option Addr} {c : Nat} {l : List Pt} (h : TR L t T A c l) : T.good := ⟨l, h.o, h.a⟩
theorem New1_ctr (p : Pt) (L : List HP) : Ctr Tryz.prog 96 #[p.v] L fun v L' => v = .bool (!goodP p) ∧ L' = L := by
  refine Ctr_of (fn := Tryz.f96) (n := 6) Tryz.func96 rfl rfl rfl ?_
  intro g F
  refine GN ?_
  refine G_region ?_
  refine GE (eff_box rfl) ?_; rintro _ _ ⟨b1, rfl, rfl⟩
  refine GQ (ev_assign rfl) ?_
  refine GO_nil ?_
  refine GN ?_
  refine G_region ?_
  refine GQ (ev_loadN rfl LnA) ?_
  refine GE (eff_call rfl (KGood_ctr p _)) ?_; rintro _ _ ⟨rfl, rfl⟩
  refine GQ (ev_not rfl) ?_
  refine GQ (ev_assign rfl) ?_
  refine GO_nil ?_
  refine GN ?_
  refine G_ret rfl (.tmp rfl .nil) EnA ⟨rfl, rfl⟩
theorem any_bad {l : List Pt} : (l.any fun p => !goodP p) = true ↔ ¬ ∀ p ∈ l, goodP p = true := by
  simp [List.any_eq_true]
theorem nodup_asc (l : List Pt) : AscO Pt.less (srtO Pt.less l) ↔ l.Nodup :=
  ⟨fun h => (srtO_perm l).nodup_iff.1 (h.nodup sto_less), fun h => srtO_asc sto_less h⟩
/-- Whether there is a tree of some points. -/
def newC (l : List Pt) : Int := if ∀ p ∈ l, goodP p = true then (if l.Nodup then 0 else 5) else 1
theorem RNew_ctr (A : Option Addr) (n c : Nat) (l : List Pt) (L : List HP) (hl : Rd L A n l) (hn : n ≤ 100000) (hc : n ≤ c) (h0 : newC l = 0) :
    Ctr Tryz.prog 65 #[.slice A n c] L fun v L' => ∃ t T A' c' N, v = .tuple #[.pointer (some ⟨t, 0, none⟩), .int .i64 0] ∧ L' = N ++ L ∧ TR (N ++ L) t T A' c' (srtO Pt.less l) := by
  have h1 : l.length = n := hl.len (by decide)
  have hg : ∀ p ∈ l, goodP p = true := by
    unfold newC at h0; split at h0
    · assumption
    · cases h0
  have hd : l.Nodup := by
    unfold newC at h0; rw [if_pos hg] at h0; split at h0
    · assumption
    · cases h0
  have ha := (nodup_asc l).2 hd
  have hcf := fun M (h : Rd M A n l) => ContainsFunc_ctr 96 [] [] (fun p => !goodP p) A n c l M h (by omega) (fun a => New1_ctr a M)
  rw [show (l.any fun p => !goodP p) = false by rw [Bool.eq_false_iff]; exact fun h => any_bad.1 h hg] at hcf
  have hsl : (srtO Pt.less l).length = n := by rw [srtO_length, h1]
  have hso : Ctr Tryz.prog 97 #[.slice A n c, .func (.func 64) #[] #[]] L fun v L' => ∃ B e, v = .slice B n e ∧ (0 < n → ∃ b, B = some ⟨b, 0, none⟩) ∧ n ≤ e ∧ e ≤ maxLen ∧ L' = own 28 3 B n e (flat (srtO Pt.less l)) :: L := by
    have := (SortO_ctr sto_less less_ls A n c l L hl (by omega) hc).made
    unfold MadeC at this
    rw [hsl] at this
    exact this
  refine Ctr_of (fn := Tryz.f65) (n := 20) Tryz.func65 rfl rfl rfl ?_
  intro g F
  refine GN ?_
  refine G_region ?_
  refine GQ (ev_assign rfl) ?_
  refine GQ (ev_assign rfl) ?_
  refine GO_nil ?_
  refine GN ?_
  refine G_region ?_
  refine GQ (ev_move rfl) ?_
  refine GE (eff_call rfl (hcf _ hl.skip)) ?_; rintro _ _ ⟨rfl, rfl⟩
  refine GO_nil ?_
  refine GN ?_
  refine G_cond_f rfl rfl ?_
  refine GN ?_
  refine G_region ?_
  refine GQ (ev_move rfl) ?_
  refine GE (eff_call rfl (Ctr.frame [F] hso (fun _ s => s))) ?_; rintro _ _ ⟨L1, ⟨B, e, rfl, hB, k1, k2, rfl⟩, rfl⟩
  refine GQ (ev_assign rfl) ?_
  refine GO_nil ?_
  have hr : ∀ L', Rd (own 28 3 B n e (flat (srtO Pt.less l)) :: L') B n (srtO Pt.less l) := fun L' => Rc.own (by rw [flat_length, hsl]; rfl) hB
  refine GN ?_
  refine G_region ?_
  refine GQ (ev_move rfl) ?_
  refine GE (eff_call rfl (UniqueO_ctr less_ls sto_less B n e (srtO Pt.less l) _ (by repeat' first | exact hr _ | apply Rd.skip) (by omega))) ?_; rintro _ _ ⟨m, hm, C, c2, rfl, hC, rfl⟩
  refine GQ (ev_len rfl) ?_
  refine GQ (ev_move rfl) ?_
  refine GQ (ev_len rfl) ?_
  (first | refine GQ (ev_lssN rfl rfl) ?_ | refine GQ (ev_lss rfl rfl) ?_)
  refine GO_nil ?_
  have hm' : m = srtO Pt.less l := hm.elim (fun h => h.2) (fun h => absurd ha h.1)
  subst hm'
  rw [hsl]
  refine GN ?_
  refine G_cond_f rfl (decide_eq_false (by omega)) ?_
  have hb := build_ctr n B n e (srtO Pt.less l) (own 28 3 B n e (flat (srtO Pt.less l)) :: L) (Nat.le_refl _) (hr L) (by omega) k1 k2
  refine GN ?_
  refine G_region ?_
  refine GQ (ev_move rfl) ?_
  refine GE (eff_call rfl (Ctr.frame [own 28 3 C n c2 (flat (srtO Pt.less l)), F] hb EpA)) ?_; rintro _ _ ⟨L1, ⟨T, N1, rfl, oT, rfl, rT⟩, rfl⟩
  refine GQ (ev_move rfl) ?_
  refine GQ (ev_build rfl rfl) ?_
  refine GE (eff_box rfl) ?_; rintro _ _ ⟨b19, rfl, rfl⟩
  refine GQ (ev_assign rfl) ?_
  refine GQ (ev_assign rfl) ?_
  refine GO_nil ?_
  refine GN ?_
  have e9 : blk b19 99 [.pointer T.addr, .slice B n e] :: (N1 ++ own 28 3 B n e (flat (srtO Pt.less l)) :: L) = (blk b19 99 [.pointer T.addr, .slice B n e] :: (N1 ++ [own 28 3 B n e (flat (srtO Pt.less l))])) ++ L := by simp
  refine G_ret (L' := blk b19 99 [.pointer T.addr, .slice B n e] :: (N1 ++ own 28 3 B n e (flat (srtO Pt.less l)) :: L)) rfl (.tmp rfl (.tmp rfl .nil)) EpA ⟨b19, T, B, e, _, rfl, e9, ?_⟩
  rw [← e9]
  exact ⟨by rw [hsl]; exact LdN.blk rfl, rT.skip, oT, ha, by rw [hsl]; exact Rd.skip (Rd.app (hr L)), by rw [hsl]; exact k1, k2⟩
section
variable {t : Nat} {T : RT} {A : Option Addr} {c : Nat} {l : List Pt} {L : List HP} (h : TR L t T A c l)
include h
theorem tpoints_ctr : Ctr Tryz.prog 56 #[.pointer (some ⟨t, 0, none⟩)] L fun v L' => v = .slice A l.length c ∧ L' = L := by
  have z1 : Ld L ⟨t, 0 + 1, none⟩ (.slice A l.length c) := h.z.at_ (i := 1) rfl
  refine Ctr_of (fn := Tryz.f56) (n := 9) Tryz.func56 rfl rfl rfl ?_
  intro g F
  refine GN ?_
  refine G_region ?_
  refine GQ (ev_assign rfl) ?_
  refine GO_nil ?_
  refine GN ?_
  refine G_region ?_
  refine GQ (ev_move rfl) ?_
  (first | refine GQ (ev_eqlNil rfl rfl) ?_ | refine GQ (ev_eqlPtr rfl rfl) ?_)
  refine GO_nil ?_
  refine GN ?_
  refine G_cond_f rfl rfl ?_
  refine GN ?_
  refine G_region ?_
  refine GQ (ev_move rfl) ?_
  (first | refine GQ (ev_nilCheck rfl) ?_ | refine GQ (ev_nilCheckF (by simp) rfl) ?_)
  refine GQ (ev_fieldAddr rfl) ?_
  refine GQ (ev_load rfl LdA) ?_
  refine GQ (ev_assign rfl) ?_
  refine GO_nil ?_
  refine GN ?_
  refine G_ret rfl (.tmp rfl .nil) EnA ⟨rfl, rfl⟩
theorem tLen_ctr : Ctr Tryz.prog 28 #[.pointer (some ⟨t, 0, none⟩)] L fun v L' => v = .int .i64 (l.length : Nat) ∧ L' = L := by
  refine Ctr_of (fn := Tryz.f28) (n := 6) Tryz.func28 rfl rfl rfl ?_
  intro g F
  refine GN ?_
  refine G_region ?_
  refine GQ (ev_assign rfl) ?_
  refine GO_nil ?_
  refine GN ?_
  refine G_region ?_
  refine GQ (ev_move rfl) ?_
  refine GE (eff_call rfl (tpoints_ctr h.skip)) ?_; rintro _ _ ⟨rfl, rfl⟩
  refine GQ (ev_len rfl) ?_
  refine GQ (ev_assign rfl) ?_
  refine GO_nil ?_
  refine GN ?_
  refine G_ret rfl (.tmp rfl .nil) EnA ⟨rfl, rfl⟩
theorem tPoints_ctr (hn : l.length ≤ 1000000) : Ctr Tryz.prog 39 #[.pointer (some ⟨t, 0, none⟩)] L fun v L' => Made 28 l L v L' := by
  refine Ctr_of (fn := Tryz.f39) (n := 6) Tryz.func39 rfl rfl rfl ?_
  intro g F
  refine GN ?_
  refine G_region ?_
  refine GQ (ev_assign rfl) ?_
  refine GO_nil ?_
  refine GN ?_
  refine G_region ?_
  refine GQ (ev_move rfl) ?_
  refine GE (eff_call rfl (tpoints_ctr h.skip)) ?_; rintro _ _ ⟨rfl, rfl⟩
  refine GE (eff_call rfl (Clone_ctr A _ c l _ h.r.skip hn)) ?_; rintro _ _ ⟨B, e, rfl, hB, rfl⟩
  refine GQ (ev_assign rfl) ?_
  refine GO_nil ?_
  refine GN ?_
  exact G_ret (L' := own 28 3 B l.length e (flat l) :: L) rfl (.tmp rfl .nil) EpA ⟨B, e, rfl, hB, rfl⟩
/-- Where to begin. -/
def begR (b : Bx) (T : RT) : RT := if b.y1 ≤ b.y2 then T else .nil
theorem tbegin_ctr (b : Bx) : Ctr Tryz.prog 79 #[.pointer (some ⟨t, 0, none⟩), .agg #[.int .i64 b.x1, .int .i64 b.x2, .int .i64 b.y1, .int .i64 b.y2]] L fun v L' => v = .agg #[.pointer (begR b T).addr, .int .i64 ((begR b T).arr.pts.countP (belowF b.y1) : Nat), .int .i64 ((begR b T).arr.pts.countP (upToF b.y2) : Nat)] ∧ L' = L := by
  have z0 : Ld L ⟨t, 0 + 0, none⟩ (.pointer T.addr) := h.z.at_ (i := 0) rfl
  have hin := h.i
  have ho := h.o.ok.1
  cases hT : T with
  | nil =>
    have e : begR b RT.nil = .nil := by unfold begR; split <;> rfl
    rw [e]
    subst hT
    refine Ctr_of (fn := Tryz.f79) (n := 47) Tryz.func79 rfl rfl rfl ?_
    intro g F
    refine GN ?_
    refine G_region ?_
    refine GE (eff_box rfl) ?_; rintro _ _ ⟨b3, rfl, rfl⟩
    refine GE eff_alloc ?_; rintro _ _ ⟨b4, rfl, rfl⟩
    refine GO_nil ?_
    refine GN ?_
    refine G_region ?_
    refine GQ (ev_move rfl) ?_
    (first | refine GQ (ev_eqlNil rfl rfl) ?_ | refine GQ (ev_eqlPtr rfl rfl) ?_)
    refine GQ (ev_move rfl) ?_
    refine GO_yes rfl rfl rfl rfl ?_
    refine GQ (ev_move rfl) ?_
    refine GO_yes rfl rfl rfl rfl ?_
    (first | refine GQ (ev_nilCheck rfl) ?_ | refine GQ (ev_nilCheckF (by simp) rfl) ?_)
    refine GO_yes rfl rfl rfl rfl ?_
    refine GQ (ev_fieldAddr rfl) ?_
    refine GO_yes rfl rfl rfl rfl ?_
    refine GQ (ev_load rfl LdA) ?_
    refine GO_yes rfl rfl rfl rfl ?_
    (first | refine GQ (ev_eqlNil rfl rfl) ?_ | refine GQ (ev_eqlPtr rfl rfl) ?_)
    refine GQ (ev_pick_f rfl rfl rfl) ?_
    refine GQ (ev_move rfl) ?_
    refine GO_no rfl rfl rfl rfl ?_
    refine GO_no rfl rfl rfl rfl ?_
    refine GO_no rfl rfl rfl rfl ?_
    refine GO_no rfl rfl rfl rfl ?_
    refine GO_no rfl rfl rfl rfl ?_
    refine GQ (ev_pick_t rfl rfl rfl) ?_
    refine GO_nil ?_
    refine GN ?_
    refine G_cond_t rfl rfl ?_
    refine GN ?_
    refine G_region ?_
    refine GQ (ev_build rfl rfl) ?_
    refine GE (eff_storeN rfl rfl rfl rfl UpA) ?_; rintro _ _ ⟨rfl, rfl⟩
    refine GO_nil ?_
    refine GN ?_
    refine G_ret rfl (.cell rfl (loadN_run LnA) .nil) EnA ⟨rfl, rfl⟩
  | node d q a u v lo hi' =>
    subst hT
    have z5 : Ld L ⟨t, 0 + 0, none⟩ (.pointer (some ⟨d, 0, none⟩)) := z0
    have z6 : Ld L ⟨d, 0 + 0, none⟩ (.pointer q) := hin.1.at_ (i := 0) rfl
    by_cases hy : b.y1 ≤ b.y2
    · rw [show begR b (RT.node d q a u v lo hi') = RT.node d q a u v lo hi' from if_pos hy]
      refine Ctr_of (fn := Tryz.f79) (n := 47) Tryz.func79 rfl rfl rfl ?_
      intro g F
      refine GN ?_
      refine G_region ?_
      refine GE (eff_box rfl) ?_; rintro _ _ ⟨b3, rfl, rfl⟩
      refine GE eff_alloc ?_; rintro _ _ ⟨b4, rfl, rfl⟩
      refine GO_nil ?_
      refine GN ?_
      refine G_region ?_
      refine GQ (ev_move rfl) ?_
      (first | refine GQ (ev_eqlNil rfl rfl) ?_ | refine GQ (ev_eqlPtr rfl rfl) ?_)
      refine GQ (ev_move rfl) ?_
      refine GO_yes rfl rfl rfl rfl ?_
      refine GQ (ev_move rfl) ?_
      refine GO_yes rfl rfl rfl rfl ?_
      (first | refine GQ (ev_nilCheck rfl) ?_ | refine GQ (ev_nilCheckF (by simp) rfl) ?_)
      refine GO_yes rfl rfl rfl rfl ?_
      refine GQ (ev_fieldAddr rfl) ?_
      refine GO_yes rfl rfl rfl rfl ?_
      refine GQ (ev_load rfl LdA) ?_
      refine GO_yes rfl rfl rfl rfl ?_
      (first | refine GQ (ev_eqlNil rfl rfl) ?_ | refine GQ (ev_eqlPtr rfl rfl) ?_)
      refine GQ (ev_pick_f rfl rfl rfl) ?_
      refine GQ (ev_move rfl) ?_
      refine GO_yes rfl rfl rfl rfl ?_
      refine GQ (ev_fieldAddr rfl) ?_
      refine GO_yes rfl rfl rfl rfl ?_
      refine GQ (ev_load rfl LdA) ?_
      refine GO_yes rfl rfl rfl rfl ?_
      refine GQ (ev_fieldAddr rfl) ?_
      refine GO_yes rfl rfl rfl rfl ?_
      refine GQ (ev_load rfl LdA) ?_
      refine GO_yes rfl rfl rfl rfl ?_
      refine GQ (ev_gtr rfl rfl) ?_
      refine GQ (ev_pick_f rfl rfl rfl) ?_
      refine GO_nil ?_
      refine GN ?_
      refine G_cond_f rfl (decide_eq_false (by omega)) ?_
      refine GN ?_
      refine G_draw (.q 0 (.q 1 (.q 2 (.q 3 (.q 4 (.q 5 (.q 6 (.q 7 (.q 8 (.q 9 (.q 10 (.q 11 (.q 12 (.q 14 (.q 15 (.q 16 (.q 17 (.q 18 (.q 19 (.q 20 (.q 21 (.q 22 (.e 13 (.e 23 (.q 24 (.e 25 .nil)))))))))))))))))))))))))) (by kernel_rfl) (by kernel_rfl) ?_
      refine RM rfl (ev_move rfl) ?_
      (first | refine RM rfl (ev_nilCheck rfl) ?_ | refine RM rfl (ev_nilCheckF (by simp) rfl) ?_)
      refine RM rfl (ev_fieldAddr rfl) ?_
      refine RQ rfl (ev_load rfl LdA) ?_
      refine RM rfl (ev_move rfl) ?_
      (first | refine RM rfl (ev_nilCheck rfl) ?_ | refine RM rfl (ev_nilCheckF (by simp) rfl) ?_)
      refine RM rfl (ev_fieldAddr rfl) ?_
      refine RQ rfl (ev_load rfl LdA) ?_
      (first | refine RM rfl (ev_nilCheck rfl) ?_ | refine RM rfl (ev_nilCheckF (by simp) rfl) ?_)
      refine RM rfl (ev_fieldAddr rfl) ?_
      refine RQ rfl (ev_load rfl LdA) ?_
      refine RM rfl (ev_fieldAddr rfl) ?_
      refine RQ rfl (ev_load rfl LdA) ?_
      refine RM rfl (ev_move rfl) ?_
      (first | refine RM rfl (ev_nilCheck rfl) ?_ | refine RM rfl (ev_nilCheckF (by simp) rfl) ?_)
      refine RM rfl (ev_fieldAddr rfl) ?_
      refine RQ rfl (ev_load rfl LdA) ?_
      (first | refine RM rfl (ev_nilCheck rfl) ?_ | refine RM rfl (ev_nilCheckF (by simp) rfl) ?_)
      refine RM rfl (ev_fieldAddr rfl) ?_
      refine RQ rfl (ev_load rfl LdA) ?_
      refine RM rfl (ev_fieldAddr rfl) ?_
      refine RQ rfl (ev_load rfl LdA) ?_
      refine RS_e (RE_eff rfl rfl rfl (eff_call rfl (Place_ctr q a b.y1 _ (by repeat' first | exact hin.2.1 | apply ArrIn.skip) ho)) ?_); rintro _ _ ⟨rfl, rfl⟩; refine ⟨_, fun _ s => s, ExA, ?_⟩
      refine RS_e (RE_eff rfl rfl rfl (eff_call rfl (Past_ctr q a b.y2 _ (by repeat' first | exact hin.2.1 | apply ArrIn.skip) ho)) ?_); rintro _ _ ⟨rfl, rfl⟩; refine ⟨_, fun _ s => s, ExA, ?_⟩
      refine RM rfl (ev_build rfl rfl) ?_
      refine RS_e (RE_last (by kernel_rfl) rfl rfl rfl (eff_storeN rfl rfl rfl rfl UpA) ?_); rintro _ _ ⟨rfl, rfl⟩
      refine GN ?_
      refine G_ret rfl (.cell rfl (loadN_run LnA) .nil) EnA ⟨rfl, rfl⟩
    · rw [show begR b (RT.node d q a u v lo hi') = .nil from if_neg hy]
      refine Ctr_of (fn := Tryz.f79) (n := 47) Tryz.func79 rfl rfl rfl ?_
      intro g F
      refine GN ?_
      refine G_region ?_
      refine GE (eff_box rfl) ?_; rintro _ _ ⟨b3, rfl, rfl⟩
      refine GE eff_alloc ?_; rintro _ _ ⟨b4, rfl, rfl⟩
      refine GO_nil ?_
      refine GN ?_
      refine G_region ?_
      refine GQ (ev_move rfl) ?_
      (first | refine GQ (ev_eqlNil rfl rfl) ?_ | refine GQ (ev_eqlPtr rfl rfl) ?_)
      refine GQ (ev_move rfl) ?_
      refine GO_yes rfl rfl rfl rfl ?_
      refine GQ (ev_move rfl) ?_
      refine GO_yes rfl rfl rfl rfl ?_
      (first | refine GQ (ev_nilCheck rfl) ?_ | refine GQ (ev_nilCheckF (by simp) rfl) ?_)
      refine GO_yes rfl rfl rfl rfl ?_
      refine GQ (ev_fieldAddr rfl) ?_
      refine GO_yes rfl rfl rfl rfl ?_
      refine GQ (ev_load rfl LdA) ?_
      refine GO_yes rfl rfl rfl rfl ?_
      (first | refine GQ (ev_eqlNil rfl rfl) ?_ | refine GQ (ev_eqlPtr rfl rfl) ?_)
      refine GQ (ev_pick_f rfl rfl rfl) ?_
      refine GQ (ev_move rfl) ?_
      refine GO_yes rfl rfl rfl rfl ?_
      refine GQ (ev_fieldAddr rfl) ?_
      refine GO_yes rfl rfl rfl rfl ?_
      refine GQ (ev_load rfl LdA) ?_
      refine GO_yes rfl rfl rfl rfl ?_
      refine GQ (ev_fieldAddr rfl) ?_
      refine GO_yes rfl rfl rfl rfl ?_
      refine GQ (ev_load rfl LdA) ?_
      refine GO_yes rfl rfl rfl rfl ?_
      refine GQ (ev_gtr rfl rfl) ?_
      refine GQ (ev_pick_f rfl rfl rfl) ?_
      refine GO_nil ?_
      refine GN ?_
      refine G_cond_t rfl (decide_eq_true (by omega)) ?_
      refine GN ?_
      refine G_region ?_
      refine GQ (ev_build rfl rfl) ?_
      refine GE (eff_storeN rfl rfl rfl rfl UpA) ?_; rintro _ _ ⟨rfl, rfl⟩
      refine GO_nil ?_
      refine GN ?_
      refine G_ret rfl (.cell rfl (loadN_run LnA) .nil) EnA ⟨rfl, rfl⟩
end
end Go.Proofs.YtkoncepjfgnjlaaGreat
/- Arrays that lead into one another: a small living one, which is sound. -/
namespace Go.Proofs.YtkoncepjfgnjlaaGreat
attribute [local irreducible] sat
set_option linter.unusedVariables false
set_option linter.unusedSimpArgs false
set_option maxRecDepth 100000

/-- How many points of an array come ahead of one. -/
def aheadF (p : Pt) (low : Bool) (q : Pt) : Bool := decide (up q p < 0) || (decide (up q p = 0) && low)
theorem ahead_ctr (q : Option Addr) (t : Arr) (p : Pt) (low : Bool) (L : List HP) (h : ArrIn L q t) (hm : t.es.length ≤ 100000) :
    Ctr Tryz.prog 123 #[.pointer q, .agg #[.int .i64 p.id, .int .i64 p.x, .int .i64 p.y], .bool low] L fun v L' => v = .int .i64 (t.pts.countP (aheadF p low) : Nat) ∧ L' = L := by
  have hpl : t.pts.length = t.es.length := List.length_map ..
  refine Ctr_of (fn := Tryz.f123) (n := 35) Tryz.func123 rfl rfl rfl ?_
  intro g F
  refine GN ?_
  refine G_region ?_
  refine GE (eff_box rfl) ?_; rintro _ _ ⟨b4, rfl, rfl⟩
  refine GQ (ev_assign rfl) ?_
  refine GO_nil ?_
  refine GN ?_
  refine G_region ?_
  refine GQ (ev_assign rfl) ?_
  refine GO_nil ?_
  refine GN ?_
  refine G_region ?_
  refine GQ (ev_move rfl) ?_
  refine GE (eff_call rfl (entries_ctr q t _ (by repeat' first | assumption | apply ArrIn.skip))) ?_; rintro _ _ ⟨⟨A, c, rfl, hr, hc, hc2⟩, rfl⟩
  refine GQ (ev_len rfl) ?_
  refine GQ (ev_move rfl) ?_
  refine GO_nil ?_
  refine GN ?_
  refine G_loop (ι := Nat) (fun k => [(2, .bool low), (4, .pointer (some ⟨b4, 0, none⟩)), (7, .int .i64 ((t.pts.take k).countP (aheadF p low) : Nat)), (12, .slice A t.es.length c), (13, .int .i64 (t.es.length : Nat)), (14, .int .i64 (k : Nat))]) (fun _ => blk b4 28 [.int .i64 p.id, .int .i64 p.x, .int .i64 p.y] :: F :: L) (fun k => k ≤ t.es.length) (fun k => t.es.length - k) 0 (Nat.zero_le _) ⟨rfl, rfl, rfl, rfl, rfl, rfl, trivial⟩ EnA ?_
  intro k hk
  have hcl : (t.pts.take k).countP (aheadF p low) ≤ k := Nat.le_trans List.countP_le_length (List.length_take_le _ _)
  refine GN ?_
  refine G_region ?_
  (first | refine GQ (ev_lssN rfl rfl) ?_ | refine GQ (ev_lss rfl rfl) ?_)
  refine GO_nil ?_
  refine GN ?_
  refine G_cond rfl (fun h1 => ?_) (fun h1 => ?_)
  · obtain ⟨bb, o, rfl, hx⟩ := hr.at_ (by omega)
    have hg : t.es[k]? = some t.es[k] := List.getElem?_eq_getElem (by omega)
    have hs := take_countP_succ (aheadF p low) t.pts k t.es[k].p (by simp [Arr.pts, hg])
    have h2 := hx _ _ hg
    generalize t.es[k] = e at *
    have h3 : LdN (blk b4 28 [.int .i64 p.id, .int .i64 p.x, .int .i64 p.y] :: F :: L) bb (o + k * 5) 5 [.int .i64 e.p.id, .int .i64 e.p.x, .int .i64 e.p.y, .int .i64 e.low, .int .i64 e.high] := h2
    refine GN ?_
    refine G_region ?_
    (first | refine GQ (ev_indexAddrN rfl rfl NgA) ?_ | refine GQ (ev_indexAddr rfl rfl NgA NgA) ?_)
    refine GQ (ev_loadN rfl LnA) ?_
    refine GE eff_alloc ?_; rintro _ _ ⟨b9, rfl, rfl⟩
    refine GE (eff_storeN rfl rfl rfl rfl UpA) ?_; rintro _ _ ⟨rfl, rfl⟩
    refine GO_nil ?_
    refine GN ?_
    refine G_region ?_
    refine GQ (ev_fieldAddr rfl) ?_
    refine GQ (ev_loadN rfl LnA) ?_
    refine GQ (ev_loadN rfl LnA) ?_
    refine GE (eff_call rfl (up_ctr e.p p _)) ?_; rintro _ _ ⟨rfl, rfl⟩
    refine GQ (ev_assign rfl) ?_
    refine GO_nil ?_
    by_cases q1 : up e.p p < 0
    · refine GN ?_
      refine G_region ?_
      refine GQ (ev_move rfl) ?_
      (first | refine GQ (ev_lssN (q := 0) rfl rfl) ?_ | refine GQ (ev_lss rfl rfl) ?_)
      refine GQ (ev_move rfl) ?_
      refine GO_no rfl rfl rfl (decide_eq_true q1) ?_
      refine GO_no rfl rfl rfl (decide_eq_true q1) ?_
      refine GO_no rfl rfl rfl (decide_eq_true q1) ?_
      refine GO_undef rfl rfl rfl ?_
      refine GO_no rfl rfl rfl (decide_eq_true q1) ?_
      refine GQ (ev_pick_t rfl (decide_eq_true q1) rfl) ?_
      refine GO_nil ?_
      refine GN ?_
      refine G_cond_t rfl rfl ?_
      refine GN ?_
      refine G_region ?_
      refine GQ (ev_move rfl) ?_
      (first | refine GQ (ev_addN (q := 1) rfl rfl NgA) ?_ | refine GQ (ev_add rfl rfl NgA) ?_)
      refine GQ (ev_assign rfl) ?_
      refine GO_nil ?_
      refine GN ?_
      refine G_region ?_
      (first | refine GQ (ev_addN (q := 1) rfl rfl NgA) ?_ | refine GQ (ev_add rfl rfl NgA) ?_)
      refine GQ (ev_move rfl) ?_
      refine GO_nil ?_
      refine GN ?_
      exact G_round (k + 1) (by omega) (by omega) ⟨rfl, rfl, by rw [hs]; simp [aheadF, q1]; rfl, rfl, rfl, rfl, trivial⟩ EnA
    · by_cases q2 : up e.p p = 0
      · cases low with
        | true =>
          refine GN ?_
          refine G_region ?_
          refine GQ (ev_move rfl) ?_
          (first | refine GQ (ev_lssN (q := 0) rfl rfl) ?_ | refine GQ (ev_lss rfl rfl) ?_)
          refine GQ (ev_move rfl) ?_
          refine GO_yes rfl rfl rfl (decide_eq_false q1) ?_
          refine GQ (ev_move rfl) ?_
          refine GO_yes rfl rfl rfl (decide_eq_false q1) ?_
          refine GQ (ev_eql rfl rfl) ?_
          refine GO_yes rfl rfl rfl (decide_eq_false q1) ?_
          refine GQ (ev_move rfl) ?_
          refine GO_yes rfl rfl rfl (decide_eq_true q2) ?_
          refine GQ (ev_move rfl) ?_
          refine GO_yes rfl rfl rfl (decide_eq_false q1) ?_
          refine GQ (ev_pick_t rfl (decide_eq_true q2) rfl) ?_
          refine GQ (ev_pick_f rfl (decide_eq_false q1) rfl) ?_
          refine GO_nil ?_
          refine GN ?_
          refine G_cond_t rfl rfl ?_
          refine GN ?_
          refine G_region ?_
          refine GQ (ev_move rfl) ?_
          (first | refine GQ (ev_addN (q := 1) rfl rfl NgA) ?_ | refine GQ (ev_add rfl rfl NgA) ?_)
          refine GQ (ev_assign rfl) ?_
          refine GO_nil ?_
          refine GN ?_
          refine G_region ?_
          (first | refine GQ (ev_addN (q := 1) rfl rfl NgA) ?_ | refine GQ (ev_add rfl rfl NgA) ?_)
          refine GQ (ev_move rfl) ?_
          refine GO_nil ?_
          refine GN ?_
          exact G_round (k + 1) (by omega) (by omega) ⟨rfl, rfl, by rw [hs]; simp [aheadF, q2]; rfl, rfl, rfl, rfl, trivial⟩ EnA
        | false =>
          refine GN ?_
          refine G_region ?_
          refine GQ (ev_move rfl) ?_
          (first | refine GQ (ev_lssN (q := 0) rfl rfl) ?_ | refine GQ (ev_lss rfl rfl) ?_)
          refine GQ (ev_move rfl) ?_
          refine GO_yes rfl rfl rfl (decide_eq_false q1) ?_
          refine GQ (ev_move rfl) ?_
          refine GO_yes rfl rfl rfl (decide_eq_false q1) ?_
          refine GQ (ev_eql rfl rfl) ?_
          refine GO_yes rfl rfl rfl (decide_eq_false q1) ?_
          refine GQ (ev_move rfl) ?_
          refine GO_yes rfl rfl rfl (decide_eq_true q2) ?_
          refine GQ (ev_move rfl) ?_
          refine GO_yes rfl rfl rfl (decide_eq_false q1) ?_
          refine GQ (ev_pick_t rfl (decide_eq_true q2) rfl) ?_
          refine GQ (ev_pick_f rfl (decide_eq_false q1) rfl) ?_
          refine GO_nil ?_
          refine GN ?_
          refine G_cond_f rfl rfl ?_
          refine GN ?_
          refine G_region ?_
          (first | refine GQ (ev_addN (q := 1) rfl rfl NgA) ?_ | refine GQ (ev_add rfl rfl NgA) ?_)
          refine GQ (ev_move rfl) ?_
          refine GO_nil ?_
          refine GN ?_
          exact G_round (k + 1) (by omega) (by omega) ⟨rfl, rfl, by rw [hs]; simp [aheadF, q2]; rfl, rfl, rfl, rfl, trivial⟩ EnA
      · refine GN ?_
        refine G_region ?_
        refine GQ (ev_move rfl) ?_
        (first | refine GQ (ev_lssN (q := 0) rfl rfl) ?_ | refine GQ (ev_lss rfl rfl) ?_)
        refine GQ (ev_move rfl) ?_
        refine GO_yes rfl rfl rfl (decide_eq_false q1) ?_
        refine GQ (ev_move rfl) ?_
        refine GO_yes rfl rfl rfl (decide_eq_false q1) ?_
        refine GQ (ev_eql rfl rfl) ?_
        refine GO_yes rfl rfl rfl (decide_eq_false q1) ?_
        refine GQ (ev_move rfl) ?_
        refine GO_no rfl rfl rfl (decide_eq_false q2) ?_
        refine GO_yes rfl rfl rfl (decide_eq_false q1) ?_
        refine GQ (ev_pick_f rfl (decide_eq_false q2) rfl) ?_
        refine GQ (ev_pick_f rfl (decide_eq_false q1) rfl) ?_
        refine GO_nil ?_
        refine GN ?_
        refine G_cond_f rfl rfl ?_
        refine GN ?_
        refine G_region ?_
        (first | refine GQ (ev_addN (q := 1) rfl rfl NgA) ?_ | refine GQ (ev_add rfl rfl NgA) ?_)
        refine GQ (ev_move rfl) ?_
        refine GO_nil ?_
        refine GN ?_
        exact G_round (k + 1) (by omega) (by omega) ⟨rfl, rfl, by rw [hs]; simp [aheadF, q1, q2]; rfl, rfl, rfl, rfl, trivial⟩ EnA
  · have : k = t.es.length := by omega
    subst this
    refine GN ?_
    refine G_region ?_
    refine GQ (ev_move rfl) ?_
    refine GQ (ev_assign rfl) ?_
    refine GO_nil ?_
    refine GN ?_
    refine G_ret rfl (.tmp rfl .nil) EnA ⟨by rw [← hpl, List.take_length]; rfl, rfl⟩
theorem sound_nil (L : List HP) : Ctr Tryz.prog 101 #[.pointer none] L fun v L' => v = .bool true ∧ L' = L := by
  refine Ctr_of (fn := Tryz.f101) (n := 162) Tryz.func101 rfl rfl rfl ?_
  intro g F
  refine GN ?_
  refine G_region ?_
  refine GQ (ev_assign rfl) ?_
  refine GO_nil ?_
  refine GN ?_
  refine G_region ?_
  refine GQ (ev_move rfl) ?_
  (first | refine GQ (ev_eqlNil rfl rfl) ?_ | refine GQ (ev_eqlPtr rfl rfl) ?_)
  refine GO_nil ?_
  refine GN ?_
  refine G_cond_t rfl rfl ?_
  refine GN ?_
  refine G_region ?_
  refine GQ (ev_assign rfl) ?_
  refine GO_nil ?_
  refine GN ?_
  refine G_ret rfl (.tmp rfl .nil) EnA ⟨rfl, rfl⟩
/-- An array that was joined of none. -/
theorem sound_leaf (q : Option Addr) (es : List Ent) (L : List HP) (h : ArrIn L q (.node es .nil .nil)) (hm : es.length ≤ 100000)
    (h1 : ∀ (k : Nat) (e f : Ent), es[k]? = some e → es[k + 1]? = some f → up e.p f.p ≤ 0) (h2 : ∀ (k : Nat) (e : Ent), es[k]? = some e → e.low ≤ 0 ∧ e.high ≤ 0) :
    Ctr Tryz.prog 101 #[.pointer q] L fun v L' => v = .bool true ∧ L' = L := by
  obtain ⟨b, A, c, _, _, rfl, x1, x2, x3, x4, rfl, rfl⟩ := h
  have y0 := x1.at_ (i := 0) rfl
  have y1 := x1.at_ (i := 1) rfl
  have y2 := x1.at_ (i := 2) rfl
  refine Ctr_of (fn := Tryz.f101) (n := 162) Tryz.func101 rfl rfl rfl ?_
  intro g F
  refine GN ?_
  refine G_region ?_
  refine GQ (ev_assign rfl) ?_
  refine GO_nil ?_
  refine GN ?_
  refine G_region ?_
  refine GQ (ev_move rfl) ?_
  (first | refine GQ (ev_eqlNil rfl rfl) ?_ | refine GQ (ev_eqlPtr rfl rfl) ?_)
  refine GO_nil ?_
  refine GN ?_
  refine G_cond_f rfl rfl ?_
  refine GN ?_
  refine G_region ?_
  refine GQ (ev_move rfl) ?_
  (first | refine GQ (ev_nilCheck rfl) ?_ | refine GQ (ev_nilCheckF (by simp) rfl) ?_)
  refine GQ (ev_fieldAddr rfl) ?_
  refine GQ (ev_load rfl LdA) ?_
  (first | refine GQ (ev_neqNil rfl rfl) ?_ | refine GQ (ev_neqPtr rfl rfl) ?_)
  refine GQ (ev_move rfl) ?_
  refine GO_yes rfl rfl rfl rfl ?_
  refine GQ (ev_move rfl) ?_
  refine GO_yes rfl rfl rfl rfl ?_
  (first | refine GQ (ev_nilCheck rfl) ?_ | refine GQ (ev_nilCheckF (by simp) rfl) ?_)
  refine GO_yes rfl rfl rfl rfl ?_
  refine GQ (ev_fieldAddr rfl) ?_
  refine GO_yes rfl rfl rfl rfl ?_
  refine GQ (ev_load rfl LdA) ?_
  refine GO_yes rfl rfl rfl rfl ?_
  (first | refine GQ (ev_neqNil rfl rfl) ?_ | refine GQ (ev_neqPtr rfl rfl) ?_)
  refine GQ (ev_pick_f rfl rfl rfl) ?_
  refine GQ (ev_assign rfl) ?_
  refine GO_nil ?_
  refine GN ?_
  refine G_region ?_
  refine GQ (ev_move rfl) ?_
  (first | refine GQ (ev_nilCheck rfl) ?_ | refine GQ (ev_nilCheckF (by simp) rfl) ?_)
  refine GQ (ev_fieldAddr rfl) ?_
  refine GQ (ev_load rfl LdA) ?_
  refine GQ (ev_len rfl) ?_
  refine GQ (ev_move rfl) ?_
  refine GO_nil ?_
  refine GN ?_
  refine G_loop (ι := Nat) (fun k => [(0, .pointer (some ⟨b, 0, none⟩)), (3, .bool false), (23, .slice A es.length c), (24, .int .i64 (es.length : Nat)), (25, .int .i64 (k : Nat))]) (fun _ => F :: L) (fun k => k ≤ es.length) (fun k => es.length - k) 0 (Nat.zero_le _) ⟨rfl, rfl, rfl, rfl, rfl, trivial⟩ EnA ?_
  intro k hk
  refine GN ?_
  refine G_region ?_
  (first | refine GQ (ev_lssN rfl rfl) ?_ | refine GQ (ev_lss rfl rfl) ?_)
  refine GO_nil ?_
  refine GN ?_
  refine G_cond rfl (fun c1 => ?_) (fun c1 => ?_)
  · obtain ⟨bb, o, rfl, hx⟩ := x2.at_ (by omega)
    have hg : es[k]? = some es[k] := List.getElem?_eq_getElem (by omega)
    have w2 := hx _ _ hg
    have w3 := h2 k _ hg
    have hprev : 0 < k → ∃ f : Ent, LdN L bb (o + (k - 1) * 5) 3 [.int .i64 f.p.id, .int .i64 f.p.x, .int .i64 f.p.y] ∧ up f.p es[k].p ≤ 0 := fun h0 => by
      have hg' : es[k - 1]? = some es[k - 1] := List.getElem?_eq_getElem (by omega)
      exact ⟨es[k - 1], (hx _ _ hg').part 3 rfl, h1 (k - 1) _ _ hg' (by rw [Nat.sub_add_cancel h0]; exact hg)⟩
    generalize es[k] = e at *
    have w4 : LdN L bb (o + k * 5) 5 [.int .i64 e.p.id, .int .i64 e.p.x, .int .i64 e.p.y, .int .i64 e.low, .int .i64 e.high] := w2
    have n1 : ¬ ((0 : Int) < e.low) := by omega
    have n2 : ¬ ((0 : Int) < e.high) := by omega
    refine GN ?_
    refine G_region ?_
    refine GQ (ev_move rfl) ?_
    (first | refine GQ (ev_indexAddrN rfl rfl NgA) ?_ | refine GQ (ev_indexAddr rfl rfl NgA NgA) ?_)
    refine GQ (ev_loadN rfl LnA) ?_
    refine GE eff_alloc ?_; rintro _ _ ⟨b5, rfl, rfl⟩
    refine GQ (ev_assign rfl) ?_
    refine GE (eff_storeN rfl rfl rfl rfl UpA) ?_; rintro _ _ ⟨rfl, rfl⟩
    refine GO_nil ?_
    by_cases h0 : 0 < k
    · obtain ⟨f, w5, w6⟩ := hprev h0
      have w7 : ¬ (0 < up f.p e.p) := by omega
      refine GN ?_
      refine G_draw (.q 0 (.q 1 (.q 2 (.q 3 (.q 4 (.q 5 (.q 6 (.q 7 (.q 8 (.q 9 (.q 10 (.q 11 (.q 12 (.q 13 (.e 14 (.q 15 (.q 16 .nil))))))))))))))))) (by kernel_rfl) (by kernel_rfl) ?_
      refine RM rfl (ev_move rfl) ?_
      refine RM rfl (ev_gtr rfl rfl) ?_
      refine RM rfl (ev_move rfl) ?_
      refine RS_m_yes retB_noPanic rfl rfl rfl rfl ⟨_, rfl, (decide_eq_true (by omega))⟩ rfl (ev_move rfl) ?_
      (first | refine RS_m_yes retB_noPanic rfl rfl rfl rfl ⟨_, rfl, (decide_eq_true (by omega))⟩ rfl (ev_nilCheck rfl) ?_ | refine RS_m_yes retB_noPanic rfl rfl rfl rfl ⟨_, rfl, (decide_eq_true (by omega))⟩ rfl (ev_nilCheckF (by simp) rfl) ?_)
      refine RS_m_yes retB_noPanic rfl rfl rfl rfl ⟨_, rfl, (decide_eq_true (by omega))⟩ rfl (ev_fieldAddr rfl) ?_
      refine RS_q_yes retB_noPanic rfl rfl rfl rfl ⟨_, rfl, (decide_eq_true (by omega))⟩ rfl (ev_load rfl LdA) ?_
      refine RS_m_yes retB_noPanic rfl rfl rfl rfl ⟨_, rfl, (decide_eq_true (by omega))⟩ rfl (ev_move rfl) ?_
      (first | refine RS_m_yes retB_noPanic rfl rfl rfl rfl ⟨_, rfl, (decide_eq_true (by omega))⟩ rfl (ev_subN (q := 1) rfl rfl NgA) ?_ | refine RS_m_yes retB_noPanic rfl rfl rfl rfl ⟨_, rfl, (decide_eq_true (by omega))⟩ rfl (ev_sub rfl rfl NgA) ?_)
      (first | refine RS_m_yes retB_noPanic rfl rfl rfl rfl ⟨_, rfl, (decide_eq_true (by omega))⟩ rfl (ev_indexAddrN rfl rfl NgA) ?_ | refine RS_m_yes retB_noPanic rfl rfl rfl rfl ⟨_, rfl, (decide_eq_true (by omega))⟩ rfl (ev_indexAddr rfl rfl NgA NgA) ?_)
      refine RS_m_yes retB_noPanic rfl rfl rfl rfl ⟨_, rfl, (decide_eq_true (by omega))⟩ rfl (ev_fieldAddr rfl) ?_
      refine RS_q_yes retB_noPanic rfl rfl rfl rfl ⟨_, rfl, (decide_eq_true (by omega))⟩ rfl (ev_loadN rfl LnA) ?_
      refine RS_m_yes retB_noPanic rfl rfl rfl rfl ⟨_, rfl, (decide_eq_true (by omega))⟩ rfl (ev_fieldAddr rfl) ?_
      refine RS_q_yes retB_noPanic rfl rfl rfl rfl ⟨_, rfl, (decide_eq_true (by omega))⟩ rfl (ev_loadN rfl LnA) ?_
      refine RS_e (RE_eff_yes rfl rfl rfl ⟨_, rfl, (decide_eq_true (by omega))⟩ rfl (eff_call rfl (up_ctr f.p e.p _)) ?_); rintro _ _ ⟨rfl, rfl⟩; refine ⟨_, fun _ s => s, ExA, ?_⟩
      refine RS_m_yes retB_noPanic rfl rfl rfl rfl ⟨_, rfl, (decide_eq_true (by omega))⟩ rfl (ev_gtr rfl rfl) ?_
      refine RM rfl (ev_pick_t rfl (decide_eq_true (by omega)) rfl) ?_
      refine RS_nil ?_
      refine GN ?_
      refine G_cond_f rfl (decide_eq_false w7) ?_
      refine GN ?_
      refine G_draw (.q 0 (.q 1 (.q 2 (.q 3 (.q 4 (.q 5 (.q 6 (.q 7 (.q 8 (.q 9 (.q 10 (.q 11 (.q 12 (.q 13 (.q 14 (.q 15 (.q 16 (.e 17 (.q 18 (.q 19 (.q 20 (.q 21 (.q 22 (.q 23 (.q 24 (.q 25 (.q 26 (.e 27 (.q 28 (.q 29 .nil)))))))))))))))))))))))))))))) (by kernel_rfl) (by kernel_rfl) ?_
      refine RM rfl (ev_move rfl) ?_
      refine RM rfl (ev_move rfl) ?_
      refine RS_q_no retB_noPanic rfl rfl rfl ⟨_, rfl, rfl⟩ rfl ?_
      refine RS_q_no retB_noPanic rfl rfl rfl ⟨_, rfl, rfl⟩ rfl ?_
      refine RS_q_no retB_noPanic rfl rfl rfl ⟨_, rfl, rfl⟩ rfl ?_
      refine RS_q_no retB_noPanic rfl rfl rfl ⟨_, rfl, rfl⟩ rfl ?_
      refine RS_q_no retB_noPanic rfl rfl rfl ⟨_, rfl, rfl⟩ rfl ?_
      refine RS_q_no retB_noPanic rfl rfl rfl ⟨_, rfl, rfl⟩ rfl ?_
      refine RS_q_no retB_noPanic rfl rfl rfl ⟨_, rfl, rfl⟩ rfl ?_
      refine RM rfl (ev_pick_f rfl rfl rfl) ?_
      refine RM rfl (ev_move rfl) ?_
      refine RS_m_yes retB_noPanic rfl rfl rfl rfl ⟨_, rfl, rfl⟩ rfl (ev_fieldAddr rfl) ?_
      refine RS_q_yes retB_noPanic rfl rfl rfl rfl ⟨_, rfl, rfl⟩ rfl (ev_load rfl LdA) ?_
      refine RS_m_yes retB_noPanic rfl rfl rfl rfl ⟨_, rfl, rfl⟩ rfl (ev_move rfl) ?_
      (first | refine RS_m_yes retB_noPanic rfl rfl rfl rfl ⟨_, rfl, rfl⟩ rfl (ev_nilCheck rfl) ?_ | refine RS_m_yes retB_noPanic rfl rfl rfl rfl ⟨_, rfl, rfl⟩ rfl (ev_nilCheckF (by simp) rfl) ?_)
      refine RS_m_yes retB_noPanic rfl rfl rfl rfl ⟨_, rfl, rfl⟩ rfl (ev_fieldAddr rfl) ?_
      refine RS_q_yes retB_noPanic rfl rfl rfl rfl ⟨_, rfl, rfl⟩ rfl (ev_load rfl LdA) ?_
      refine RS_e (RE_eff_yes rfl rfl rfl ⟨_, rfl, rfl⟩ rfl (eff_call rfl (size_ctr none .nil _ rfl)) ?_); rintro _ _ ⟨rfl, rfl⟩; refine ⟨_, fun _ s => s, ExA, ?_⟩
      refine RS_m_yes retB_noPanic rfl rfl rfl rfl ⟨_, rfl, rfl⟩ rfl (ev_gtr rfl rfl) ?_
      refine RM rfl (ev_pick_f rfl rfl rfl) ?_
      refine RM rfl (ev_move rfl) ?_
      refine RS_m_yes retB_noPanic rfl rfl rfl rfl ⟨_, rfl, (decide_eq_false n1)⟩ rfl (ev_fieldAddr rfl) ?_
      refine RS_q_yes retB_noPanic rfl rfl rfl rfl ⟨_, rfl, (decide_eq_false n1)⟩ rfl (ev_load rfl LdA) ?_
      refine RS_m_yes retB_noPanic rfl rfl rfl rfl ⟨_, rfl, (decide_eq_false n1)⟩ rfl (ev_move rfl) ?_
      (first | refine RS_m_yes retB_noPanic rfl rfl rfl rfl ⟨_, rfl, (decide_eq_false n1)⟩ rfl (ev_nilCheck rfl) ?_ | refine RS_m_yes retB_noPanic rfl rfl rfl rfl ⟨_, rfl, (decide_eq_false n1)⟩ rfl (ev_nilCheckF (by simp) rfl) ?_)
      refine RS_m_yes retB_noPanic rfl rfl rfl rfl ⟨_, rfl, (decide_eq_false n1)⟩ rfl (ev_fieldAddr rfl) ?_
      refine RS_q_yes retB_noPanic rfl rfl rfl rfl ⟨_, rfl, (decide_eq_false n1)⟩ rfl (ev_load rfl LdA) ?_
      refine RS_e (RE_eff_yes rfl rfl rfl ⟨_, rfl, (decide_eq_false n1)⟩ rfl (eff_call rfl (size_ctr none .nil _ rfl)) ?_); rintro _ _ ⟨rfl, rfl⟩; refine ⟨_, fun _ s => s, ExA, ?_⟩
      refine RS_m_yes retB_noPanic rfl rfl rfl rfl ⟨_, rfl, (decide_eq_false n1)⟩ rfl (ev_gtr rfl rfl) ?_
      refine RM rfl (ev_pick_f rfl (decide_eq_false n1) rfl) ?_
      refine RS_nil ?_
      refine GN ?_
      refine G_cond_f rfl (decide_eq_false n2) ?_
      refine GN ?_
      refine G_draw (.q 0 (.q 1 (.q 2 (.q 3 (.q 4 (.q 5 (.q 6 (.q 7 (.q 8 (.q 9 (.e 10 (.q 11 (.q 12 (.q 13 (.q 14 (.q 15 (.q 16 (.q 17 (.q 18 (.q 19 (.q 20 (.e 21 (.q 22 (.q 23 (.q 24 (.q 25 (.q 26 (.q 27 (.q 28 (.q 29 (.q 30 (.q 31 (.q 32 (.e 33 (.q 34 (.q 35 (.q 36 (.q 37 (.q 38 (.q 39 (.q 40 (.q 41 (.q 42 (.q 43 (.q 44 (.e 45 (.q 46 (.q 47 (.q 48 .nil))))))))))))))))))))))))))))))))))))))))))))))))) (by kernel_rfl) (by kernel_rfl) ?_
      refine RM rfl (ev_move rfl) ?_
      refine RM rfl (ev_move rfl) ?_
      refine RS_q_no retB_noPanic rfl rfl rfl ⟨_, rfl, rfl⟩ rfl ?_
      refine RS_q_no retB_noPanic rfl rfl rfl ⟨_, rfl, rfl⟩ rfl ?_
      refine RS_q_no retB_noPanic rfl rfl rfl ⟨_, rfl, rfl⟩ rfl ?_
      refine RS_q_no retB_noPanic rfl rfl rfl ⟨_, rfl, rfl⟩ rfl ?_
      refine RS_q_no retB_noPanic rfl rfl rfl ⟨_, rfl, rfl⟩ rfl ?_
      refine RS_q_no retB_noPanic rfl rfl rfl ⟨_, rfl, rfl⟩ rfl ?_
      refine RS_q_no retB_noPanic rfl rfl rfl ⟨_, rfl, rfl⟩ rfl ?_
      refine RS_q_no retB_noPanic rfl rfl rfl ⟨_, rfl, rfl⟩ rfl ?_
      refine RS_e (RE_no rfl rfl rfl ⟨_, rfl, rfl⟩ rfl ?_)
      refine RS_q_no retB_noPanic rfl rfl rfl ⟨_, rfl, rfl⟩ rfl ?_
      refine RS_q_no retB_noPanic rfl rfl rfl ⟨_, rfl, rfl⟩ rfl ?_
      refine RS_q_undef retB_noPanic rfl rfl rfl rfl rfl ?_
      refine RS_q_undef retB_noPanic rfl rfl rfl rfl rfl ?_
      refine RS_q_undef retB_noPanic rfl rfl rfl rfl rfl ?_
      refine RS_q_undef retB_noPanic rfl rfl rfl rfl rfl ?_
      refine RS_q_undef retB_noPanic rfl rfl rfl rfl rfl ?_
      refine RS_q_undef retB_noPanic rfl rfl rfl rfl rfl ?_
      refine RS_q_undef retB_noPanic rfl rfl rfl rfl rfl ?_
      refine RS_q_undef retB_noPanic rfl rfl rfl rfl rfl ?_
      refine RS_e (RE_undef rfl rfl rfl rfl rfl ?_)
      refine RS_q_undef retB_noPanic rfl rfl rfl rfl rfl ?_
      refine RS_q_no retB_noPanic rfl rfl rfl ⟨_, rfl, rfl⟩ rfl ?_
      refine RS_q_no retB_noPanic rfl rfl rfl ⟨_, rfl, rfl⟩ rfl ?_
      refine RS_q_undef retB_noPanic rfl rfl rfl rfl rfl ?_
      refine RS_q_undef retB_noPanic rfl rfl rfl rfl rfl ?_
      refine RS_q_undef retB_noPanic rfl rfl rfl rfl rfl ?_
      refine RS_q_undef retB_noPanic rfl rfl rfl rfl rfl ?_
      refine RS_q_undef retB_noPanic rfl rfl rfl rfl rfl ?_
      refine RS_q_undef retB_noPanic rfl rfl rfl rfl rfl ?_
      refine RS_q_undef retB_noPanic rfl rfl rfl rfl rfl ?_
      refine RS_q_undef retB_noPanic rfl rfl rfl rfl rfl ?_
      refine RS_e (RE_undef rfl rfl rfl rfl rfl ?_)
      refine RS_q_undef retB_noPanic rfl rfl rfl rfl rfl ?_
      refine RS_q_no retB_noPanic rfl rfl rfl ⟨_, rfl, rfl⟩ rfl ?_
      refine RS_q_no retB_noPanic rfl rfl rfl ⟨_, rfl, rfl⟩ rfl ?_
      refine RS_q_undef retB_noPanic rfl rfl rfl rfl rfl ?_
      refine RS_q_undef retB_noPanic rfl rfl rfl rfl rfl ?_
      refine RS_q_undef retB_noPanic rfl rfl rfl rfl rfl ?_
      refine RS_q_undef retB_noPanic rfl rfl rfl rfl rfl ?_
      refine RS_q_undef retB_noPanic rfl rfl rfl rfl rfl ?_
      refine RS_q_undef retB_noPanic rfl rfl rfl rfl rfl ?_
      refine RS_q_undef retB_noPanic rfl rfl rfl rfl rfl ?_
      refine RS_q_undef retB_noPanic rfl rfl rfl rfl rfl ?_
      refine RS_e (RE_undef rfl rfl rfl rfl rfl ?_)
      refine RS_q_undef retB_noPanic rfl rfl rfl rfl rfl ?_
      refine RS_q_no retB_noPanic rfl rfl rfl ⟨_, rfl, rfl⟩ rfl ?_
      refine RM rfl (ev_pick_f rfl rfl rfl) ?_
      refine RS_nil ?_
      refine GN ?_
      refine G_cond_f rfl rfl ?_
      refine GN ?_
      refine G_region ?_
      (first | refine GQ (ev_addN (q := 1) rfl rfl NgA) ?_ | refine GQ (ev_add rfl rfl NgA) ?_)
      refine GQ (ev_move rfl) ?_
      refine GO_nil ?_
      refine GN ?_
      exact G_round (k + 1) (by omega) (by omega) ⟨rfl, rfl, rfl, rfl, rfl, trivial⟩ EnA
    · refine GN ?_
      refine G_draw (.q 0 (.q 1 (.q 2 (.q 3 (.q 4 (.q 5 (.q 6 (.q 7 (.q 8 (.q 9 (.q 10 (.q 11 (.q 12 (.q 13 (.e 14 (.q 15 (.q 16 .nil))))))))))))))))) (by kernel_rfl) (by kernel_rfl) ?_
      refine RM rfl (ev_move rfl) ?_
      refine RM rfl (ev_gtr rfl rfl) ?_
      refine RM rfl (ev_move rfl) ?_
      refine RS_q_no retB_noPanic rfl rfl rfl ⟨_, rfl, (decide_eq_false (by omega))⟩ rfl ?_
      refine RS_q_no retB_noPanic rfl rfl rfl ⟨_, rfl, (decide_eq_false (by omega))⟩ rfl ?_
      refine RS_q_no retB_noPanic rfl rfl rfl ⟨_, rfl, (decide_eq_false (by omega))⟩ rfl ?_
      refine RS_q_no retB_noPanic rfl rfl rfl ⟨_, rfl, (decide_eq_false (by omega))⟩ rfl ?_
      refine RS_q_no retB_noPanic rfl rfl rfl ⟨_, rfl, (decide_eq_false (by omega))⟩ rfl ?_
      refine RS_q_no retB_noPanic rfl rfl rfl ⟨_, rfl, (decide_eq_false (by omega))⟩ rfl ?_
      refine RS_q_no retB_noPanic rfl rfl rfl ⟨_, rfl, (decide_eq_false (by omega))⟩ rfl ?_
      refine RS_q_no retB_noPanic rfl rfl rfl ⟨_, rfl, (decide_eq_false (by omega))⟩ rfl ?_
      refine RS_q_no retB_noPanic rfl rfl rfl ⟨_, rfl, (decide_eq_false (by omega))⟩ rfl ?_
      refine RS_q_no retB_noPanic rfl rfl rfl ⟨_, rfl, (decide_eq_false (by omega))⟩ rfl ?_
      refine RS_q_no retB_noPanic rfl rfl rfl ⟨_, rfl, (decide_eq_false (by omega))⟩ rfl ?_
      refine RS_e (RE_no rfl rfl rfl ⟨_, rfl, (decide_eq_false (by omega))⟩ rfl ?_)
      refine RS_q_no retB_noPanic rfl rfl rfl ⟨_, rfl, (decide_eq_false (by omega))⟩ rfl ?_
      refine RM rfl (ev_pick_f rfl (decide_eq_false (by omega)) rfl) ?_
      refine RS_nil ?_
      refine GN ?_
      refine G_cond_f rfl rfl ?_
      refine GN ?_
      refine G_draw (.q 0 (.q 1 (.q 2 (.q 3 (.q 4 (.q 5 (.q 6 (.q 7 (.q 8 (.q 9 (.q 10 (.q 11 (.q 12 (.q 13 (.q 14 (.q 15 (.q 16 (.e 17 (.q 18 (.q 19 (.q 20 (.q 21 (.q 22 (.q 23 (.q 24 (.q 25 (.q 26 (.e 27 (.q 28 (.q 29 .nil)))))))))))))))))))))))))))))) (by kernel_rfl) (by kernel_rfl) ?_
      refine RM rfl (ev_move rfl) ?_
      refine RM rfl (ev_move rfl) ?_
      refine RS_q_no retB_noPanic rfl rfl rfl ⟨_, rfl, rfl⟩ rfl ?_
      refine RS_q_no retB_noPanic rfl rfl rfl ⟨_, rfl, rfl⟩ rfl ?_
      refine RS_q_no retB_noPanic rfl rfl rfl ⟨_, rfl, rfl⟩ rfl ?_
      refine RS_q_no retB_noPanic rfl rfl rfl ⟨_, rfl, rfl⟩ rfl ?_
      refine RS_q_no retB_noPanic rfl rfl rfl ⟨_, rfl, rfl⟩ rfl ?_
      refine RS_q_no retB_noPanic rfl rfl rfl ⟨_, rfl, rfl⟩ rfl ?_
      refine RS_q_no retB_noPanic rfl rfl rfl ⟨_, rfl, rfl⟩ rfl ?_
      refine RM rfl (ev_pick_f rfl rfl rfl) ?_
      refine RM rfl (ev_move rfl) ?_
      refine RS_m_yes retB_noPanic rfl rfl rfl rfl ⟨_, rfl, rfl⟩ rfl (ev_fieldAddr rfl) ?_
      refine RS_q_yes retB_noPanic rfl rfl rfl rfl ⟨_, rfl, rfl⟩ rfl (ev_load rfl LdA) ?_
      refine RS_m_yes retB_noPanic rfl rfl rfl rfl ⟨_, rfl, rfl⟩ rfl (ev_move rfl) ?_
      (first | refine RS_m_yes retB_noPanic rfl rfl rfl rfl ⟨_, rfl, rfl⟩ rfl (ev_nilCheck rfl) ?_ | refine RS_m_yes retB_noPanic rfl rfl rfl rfl ⟨_, rfl, rfl⟩ rfl (ev_nilCheckF (by simp) rfl) ?_)
      refine RS_m_yes retB_noPanic rfl rfl rfl rfl ⟨_, rfl, rfl⟩ rfl (ev_fieldAddr rfl) ?_
      refine RS_q_yes retB_noPanic rfl rfl rfl rfl ⟨_, rfl, rfl⟩ rfl (ev_load rfl LdA) ?_
      refine RS_e (RE_eff_yes rfl rfl rfl ⟨_, rfl, rfl⟩ rfl (eff_call rfl (size_ctr none .nil _ rfl)) ?_); rintro _ _ ⟨rfl, rfl⟩; refine ⟨_, fun _ s => s, ExA, ?_⟩
      refine RS_m_yes retB_noPanic rfl rfl rfl rfl ⟨_, rfl, rfl⟩ rfl (ev_gtr rfl rfl) ?_
      refine RM rfl (ev_pick_f rfl rfl rfl) ?_
      refine RM rfl (ev_move rfl) ?_
      refine RS_m_yes retB_noPanic rfl rfl rfl rfl ⟨_, rfl, (decide_eq_false n1)⟩ rfl (ev_fieldAddr rfl) ?_
      refine RS_q_yes retB_noPanic rfl rfl rfl rfl ⟨_, rfl, (decide_eq_false n1)⟩ rfl (ev_load rfl LdA) ?_
      refine RS_m_yes retB_noPanic rfl rfl rfl rfl ⟨_, rfl, (decide_eq_false n1)⟩ rfl (ev_move rfl) ?_
      (first | refine RS_m_yes retB_noPanic rfl rfl rfl rfl ⟨_, rfl, (decide_eq_false n1)⟩ rfl (ev_nilCheck rfl) ?_ | refine RS_m_yes retB_noPanic rfl rfl rfl rfl ⟨_, rfl, (decide_eq_false n1)⟩ rfl (ev_nilCheckF (by simp) rfl) ?_)
      refine RS_m_yes retB_noPanic rfl rfl rfl rfl ⟨_, rfl, (decide_eq_false n1)⟩ rfl (ev_fieldAddr rfl) ?_
      refine RS_q_yes retB_noPanic rfl rfl rfl rfl ⟨_, rfl, (decide_eq_false n1)⟩ rfl (ev_load rfl LdA) ?_
      refine RS_e (RE_eff_yes rfl rfl rfl ⟨_, rfl, (decide_eq_false n1)⟩ rfl (eff_call rfl (size_ctr none .nil _ rfl)) ?_); rintro _ _ ⟨rfl, rfl⟩; refine ⟨_, fun _ s => s, ExA, ?_⟩
      refine RS_m_yes retB_noPanic rfl rfl rfl rfl ⟨_, rfl, (decide_eq_false n1)⟩ rfl (ev_gtr rfl rfl) ?_
      refine RM rfl (ev_pick_f rfl (decide_eq_false n1) rfl) ?_
      refine RS_nil ?_
      refine GN ?_
      refine G_cond_f rfl (decide_eq_false n2) ?_
      refine GN ?_
      refine G_draw (.q 0 (.q 1 (.q 2 (.q 3 (.q 4 (.q 5 (.q 6 (.q 7 (.q 8 (.q 9 (.e 10 (.q 11 (.q 12 (.q 13 (.q 14 (.q 15 (.q 16 (.q 17 (.q 18 (.q 19 (.q 20 (.e 21 (.q 22 (.q 23 (.q 24 (.q 25 (.q 26 (.q 27 (.q 28 (.q 29 (.q 30 (.q 31 (.q 32 (.e 33 (.q 34 (.q 35 (.q 36 (.q 37 (.q 38 (.q 39 (.q 40 (.q 41 (.q 42 (.q 43 (.q 44 (.e 45 (.q 46 (.q 47 (.q 48 .nil))))))))))))))))))))))))))))))))))))))))))))))))) (by kernel_rfl) (by kernel_rfl) ?_
      refine RM rfl (ev_move rfl) ?_
      refine RM rfl (ev_move rfl) ?_
      refine RS_q_no retB_noPanic rfl rfl rfl ⟨_, rfl, rfl⟩ rfl ?_
      refine RS_q_no retB_noPanic rfl rfl rfl ⟨_, rfl, rfl⟩ rfl ?_
      refine RS_q_no retB_noPanic rfl rfl rfl ⟨_, rfl, rfl⟩ rfl ?_
      refine RS_q_no retB_noPanic rfl rfl rfl ⟨_, rfl, rfl⟩ rfl ?_
      refine RS_q_no retB_noPanic rfl rfl rfl ⟨_, rfl, rfl⟩ rfl ?_
      refine RS_q_no retB_noPanic rfl rfl rfl ⟨_, rfl, rfl⟩ rfl ?_
      refine RS_q_no retB_noPanic rfl rfl rfl ⟨_, rfl, rfl⟩ rfl ?_
      refine RS_q_no retB_noPanic rfl rfl rfl ⟨_, rfl, rfl⟩ rfl ?_
      refine RS_e (RE_no rfl rfl rfl ⟨_, rfl, rfl⟩ rfl ?_)
      refine RS_q_no retB_noPanic rfl rfl rfl ⟨_, rfl, rfl⟩ rfl ?_
      refine RS_q_no retB_noPanic rfl rfl rfl ⟨_, rfl, rfl⟩ rfl ?_
      refine RS_q_undef retB_noPanic rfl rfl rfl rfl rfl ?_
      refine RS_q_undef retB_noPanic rfl rfl rfl rfl rfl ?_
      refine RS_q_undef retB_noPanic rfl rfl rfl rfl rfl ?_
      refine RS_q_undef retB_noPanic rfl rfl rfl rfl rfl ?_
      refine RS_q_undef retB_noPanic rfl rfl rfl rfl rfl ?_
      refine RS_q_undef retB_noPanic rfl rfl rfl rfl rfl ?_
      refine RS_q_undef retB_noPanic rfl rfl rfl rfl rfl ?_
      refine RS_q_undef retB_noPanic rfl rfl rfl rfl rfl ?_
      refine RS_e (RE_undef rfl rfl rfl rfl rfl ?_)
      refine RS_q_undef retB_noPanic rfl rfl rfl rfl rfl ?_
      refine RS_q_no retB_noPanic rfl rfl rfl ⟨_, rfl, rfl⟩ rfl ?_
      refine RS_q_no retB_noPanic rfl rfl rfl ⟨_, rfl, rfl⟩ rfl ?_
      refine RS_q_undef retB_noPanic rfl rfl rfl rfl rfl ?_
      refine RS_q_undef retB_noPanic rfl rfl rfl rfl rfl ?_
      refine RS_q_undef retB_noPanic rfl rfl rfl rfl rfl ?_
      refine RS_q_undef retB_noPanic rfl rfl rfl rfl rfl ?_
      refine RS_q_undef retB_noPanic rfl rfl rfl rfl rfl ?_
      refine RS_q_undef retB_noPanic rfl rfl rfl rfl rfl ?_
      refine RS_q_undef retB_noPanic rfl rfl rfl rfl rfl ?_
      refine RS_q_undef retB_noPanic rfl rfl rfl rfl rfl ?_
      refine RS_e (RE_undef rfl rfl rfl rfl rfl ?_)
      refine RS_q_undef retB_noPanic rfl rfl rfl rfl rfl ?_
      refine RS_q_no retB_noPanic rfl rfl rfl ⟨_, rfl, rfl⟩ rfl ?_
      refine RS_q_no retB_noPanic rfl rfl rfl ⟨_, rfl, rfl⟩ rfl ?_
      refine RS_q_undef retB_noPanic rfl rfl rfl rfl rfl ?_
      refine RS_q_undef retB_noPanic rfl rfl rfl rfl rfl ?_
      refine RS_q_undef retB_noPanic rfl rfl rfl rfl rfl ?_
      refine RS_q_undef retB_noPanic rfl rfl rfl rfl rfl ?_
      refine RS_q_undef retB_noPanic rfl rfl rfl rfl rfl ?_
      refine RS_q_undef retB_noPanic rfl rfl rfl rfl rfl ?_
      refine RS_q_undef retB_noPanic rfl rfl rfl rfl rfl ?_
      refine RS_q_undef retB_noPanic rfl rfl rfl rfl rfl ?_
      refine RS_e (RE_undef rfl rfl rfl rfl rfl ?_)
      refine RS_q_undef retB_noPanic rfl rfl rfl rfl rfl ?_
      refine RS_q_no retB_noPanic rfl rfl rfl ⟨_, rfl, rfl⟩ rfl ?_
      refine RM rfl (ev_pick_f rfl rfl rfl) ?_
      refine RS_nil ?_
      refine GN ?_
      refine G_cond_f rfl rfl ?_
      refine GN ?_
      refine G_region ?_
      (first | refine GQ (ev_addN (q := 1) rfl rfl NgA) ?_ | refine GQ (ev_add rfl rfl NgA) ?_)
      refine GQ (ev_move rfl) ?_
      refine GO_nil ?_
      refine GN ?_
      exact G_round (k + 1) (by omega) (by omega) ⟨rfl, rfl, rfl, rfl, rfl, trivial⟩ EnA
  · refine GN ?_
    refine G_draw (.q 0 (.q 1 (.q 2 (.q 3 (.e 4 (.q 5 (.q 6 (.q 7 (.q 8 (.q 9 (.e 10 (.q 11 (.q 12 (.q 13 (.q 14 (.q 15 (.q 16 (.q 17 (.q 18 (.q 19 (.q 20 (.q 21 (.q 22 (.q 23 (.q 24 (.q 26 (.q 27 (.q 28 (.q 29 (.e 25 (.e 30 (.q 31 (.q 32 (.q 33 (.q 34 (.q 35 .nil)))))))))))))))))))))))))))))))))))) (by kernel_rfl) (by kernel_rfl) ?_
    refine RM rfl (ev_move rfl) ?_
    (first | refine RM rfl (ev_nilCheck rfl) ?_ | refine RM rfl (ev_nilCheckF (by simp) rfl) ?_)
    refine RM rfl (ev_fieldAddr rfl) ?_
    refine RQ rfl (ev_load rfl LdA) ?_
    refine RS_e (RE_eff rfl rfl rfl (eff_call rfl (sound_nil _)) ?_); rintro _ _ ⟨rfl, rfl⟩; refine ⟨_, fun _ s => s, ExA, ?_⟩
    refine RM rfl (ev_move rfl) ?_
    refine RS_m_yes retB_noPanic rfl rfl rfl rfl ⟨_, rfl, rfl⟩ rfl (ev_move rfl) ?_
    (first | refine RS_m_yes retB_noPanic rfl rfl rfl rfl ⟨_, rfl, rfl⟩ rfl (ev_nilCheck rfl) ?_ | refine RS_m_yes retB_noPanic rfl rfl rfl rfl ⟨_, rfl, rfl⟩ rfl (ev_nilCheckF (by simp) rfl) ?_)
    refine RS_m_yes retB_noPanic rfl rfl rfl rfl ⟨_, rfl, rfl⟩ rfl (ev_fieldAddr rfl) ?_
    refine RS_q_yes retB_noPanic rfl rfl rfl rfl ⟨_, rfl, rfl⟩ rfl (ev_load rfl LdA) ?_
    refine RS_e (RE_eff_yes rfl rfl rfl ⟨_, rfl, rfl⟩ rfl (eff_call rfl (sound_nil _)) ?_); rintro _ _ ⟨rfl, rfl⟩; refine ⟨_, fun _ s => s, ExA, ?_⟩
    refine RM rfl (ev_pick_t rfl rfl rfl) ?_
    refine RM rfl (ev_move rfl) ?_
    refine RS_m_yes retB_noPanic rfl rfl rfl rfl ⟨_, rfl, rfl⟩ rfl (ev_move rfl) ?_
    (first | refine RS_m_yes retB_noPanic rfl rfl rfl rfl ⟨_, rfl, rfl⟩ rfl (ev_notP rfl) ?_ | refine RS_m_yes retB_noPanic rfl rfl rfl rfl ⟨_, rfl, rfl⟩ rfl (ev_not rfl) ?_)
    refine RS_m_yes retB_noPanic rfl rfl rfl rfl ⟨_, rfl, rfl⟩ rfl (ev_move rfl) ?_
    refine RS_q_no retB_noPanic rfl rfl rfl ⟨_, rfl, rfl⟩ rfl ?_
    refine RS_q_no retB_noPanic rfl rfl rfl ⟨_, rfl, rfl⟩ rfl ?_
    refine RS_q_no retB_noPanic rfl rfl rfl ⟨_, rfl, rfl⟩ rfl ?_
    refine RS_q_no retB_noPanic rfl rfl rfl ⟨_, rfl, rfl⟩ rfl ?_
    refine RS_q_no retB_noPanic rfl rfl rfl ⟨_, rfl, rfl⟩ rfl ?_
    refine RS_q_no retB_noPanic rfl rfl rfl ⟨_, rfl, rfl⟩ rfl ?_
    refine RS_q_no retB_noPanic rfl rfl rfl ⟨_, rfl, rfl⟩ rfl ?_
    refine RS_q_no retB_noPanic rfl rfl rfl ⟨_, rfl, rfl⟩ rfl ?_
    refine RS_q_no retB_noPanic rfl rfl rfl ⟨_, rfl, rfl⟩ rfl ?_
    refine RS_q_no retB_noPanic rfl rfl rfl ⟨_, rfl, rfl⟩ rfl ?_
    refine RS_q_no retB_noPanic rfl rfl rfl ⟨_, rfl, rfl⟩ rfl ?_
    refine RS_q_no retB_noPanic rfl rfl rfl ⟨_, rfl, rfl⟩ rfl ?_
    refine RS_q_no retB_noPanic rfl rfl rfl ⟨_, rfl, rfl⟩ rfl ?_
    refine RS_e (RE_no rfl rfl rfl ⟨_, rfl, rfl⟩ rfl ?_)
    refine RS_e (RE_no rfl rfl rfl ⟨_, rfl, rfl⟩ rfl ?_)
    refine RS_q_no retB_noPanic rfl rfl rfl ⟨_, rfl, rfl⟩ rfl ?_
    refine RS_q_no retB_noPanic rfl rfl rfl ⟨_, rfl, rfl⟩ rfl ?_
    refine RS_m_yes retB_noPanic rfl rfl rfl rfl ⟨_, rfl, rfl⟩ rfl (ev_pick_t rfl rfl rfl) ?_
    refine RM rfl (ev_pick_t rfl rfl rfl) ?_
    refine RM rfl (ev_assign rfl) ?_
    refine RS_nil ?_
    refine GN ?_
    refine G_ret rfl (.tmp rfl .nil) EnA ⟨rfl, rfl⟩
end Go.Proofs.YtkoncepjfgnjlaaGreat
/- Arrays that lead into one another: a joined one, which is sound; and that a small one lives. -/
namespace Go.Proofs.YtkoncepjfgnjlaaGreat
attribute [local irreducible] sat
set_option linter.unusedVariables false
set_option linter.unusedSimpArgs false
set_option maxRecDepth 100000

theorem sound_join (q : Option Addr) (es : List Ent) (lo hi : Arr) (L : List HP) (h : ArrIn L q (.node es lo hi)) (hlo : lo ≠ .nil) (hm : es.length ≤ 100000) (z1 : lo.es.length ≤ 100000) (z2 : hi.es.length ≤ 100000)
    (h1 : ∀ (k : Nat) (e f : Ent), es[k]? = some e → es[k + 1]? = some f → up e.p f.p ≤ 0)
    (h2 : ∀ (k : Nat) (e : Ent), es[k]? = some e → 0 ≤ e.low ∧ 0 ≤ e.high ∧ e.low + e.high = k ∧ e.low ≤ lo.es.length ∧ e.high ≤ hi.es.length ∧ e.low ≤ lo.pts.countP (aheadF e.p true) ∧ e.high ≤ hi.pts.countP (aheadF e.p true) ∧ lo.pts.countP (aheadF e.p false) ≤ e.low ∧ hi.pts.countP (aheadF e.p false) ≤ e.high)
    (hlen : es.length = lo.es.length + hi.es.length)
    (slo : ∀ (L : List HP) (q : Option Addr), ArrIn L q lo → Ctr Tryz.prog 101 #[.pointer q] L fun v L' => v = .bool true ∧ L' = L)
    (shi : ∀ (L : List HP) (q : Option Addr), ArrIn L q hi → Ctr Tryz.prog 101 #[.pointer q] L fun v L' => v = .bool true ∧ L' = L) :
    Ctr Tryz.prog 101 #[.pointer q] L fun v L' => v = .bool true ∧ L' = L := by
  obtain ⟨b, A, c, pl, ph, rfl, x1, x2, x3, x4, al, ah⟩ := h
  have y0 := x1.at_ (i := 0) rfl
  have y1 := x1.at_ (i := 1) rfl
  have y2 := x1.at_ (i := 2) rfl
  obtain ⟨pla, rfl⟩ : ∃ a, pl = some a := by
    cases lo with
    | nil => exact absurd rfl hlo
    | node _ _ _ => obtain ⟨b, _, _, _, _, rfl, _⟩ := al; exact ⟨_, rfl⟩
  refine Ctr_of (fn := Tryz.f101) (n := 162) Tryz.func101 rfl rfl rfl ?_
  intro g F
  refine GN ?_
  refine G_region ?_
  refine GQ (ev_assign rfl) ?_
  refine GO_nil ?_
  refine GN ?_
  refine G_region ?_
  refine GQ (ev_move rfl) ?_
  (first | refine GQ (ev_eqlNil rfl rfl) ?_ | refine GQ (ev_eqlPtr rfl rfl) ?_)
  refine GO_nil ?_
  refine GN ?_
  refine G_cond_f rfl rfl ?_
  refine GN ?_
  refine G_region ?_
  refine GQ (ev_move rfl) ?_
  (first | refine GQ (ev_nilCheck rfl) ?_ | refine GQ (ev_nilCheckF (by simp) rfl) ?_)
  refine GQ (ev_fieldAddr rfl) ?_
  refine GQ (ev_load rfl LdA) ?_
  (first | refine GQ (ev_neqNil rfl rfl) ?_ | refine GQ (ev_neqPtr rfl rfl) ?_)
  refine GQ (ev_move rfl) ?_
  refine GO_no rfl rfl rfl rfl ?_
  refine GO_no rfl rfl rfl rfl ?_
  refine GO_no rfl rfl rfl rfl ?_
  refine GO_no rfl rfl rfl rfl ?_
  refine GO_no rfl rfl rfl rfl ?_
  refine GQ (ev_pick_t rfl rfl rfl) ?_
  refine GQ (ev_assign rfl) ?_
  refine GO_nil ?_
  refine GN ?_
  refine G_region ?_
  refine GQ (ev_move rfl) ?_
  (first | refine GQ (ev_nilCheck rfl) ?_ | refine GQ (ev_nilCheckF (by simp) rfl) ?_)
  refine GQ (ev_fieldAddr rfl) ?_
  refine GQ (ev_load rfl LdA) ?_
  refine GQ (ev_len rfl) ?_
  refine GQ (ev_move rfl) ?_
  refine GO_nil ?_
  refine GN ?_
  refine G_loop (ι := Nat) (fun k => [(0, .pointer (some ⟨b, 0, none⟩)), (3, .bool true), (23, .slice A es.length c), (24, .int .i64 (es.length : Nat)), (25, .int .i64 (k : Nat))]) (fun _ => F :: L) (fun k => k ≤ es.length) (fun k => es.length - k) 0 (Nat.zero_le _) ⟨rfl, rfl, rfl, rfl, rfl, trivial⟩ EnA ?_
  intro k hk
  refine GN ?_
  refine G_region ?_
  (first | refine GQ (ev_lssN rfl rfl) ?_ | refine GQ (ev_lss rfl rfl) ?_)
  refine GO_nil ?_
  refine GN ?_
  refine G_cond rfl (fun c1 => ?_) (fun c1 => ?_)
  · obtain ⟨bb, o, rfl, hx⟩ := x2.at_ (by omega)
    have hg : es[k]? = some es[k] := List.getElem?_eq_getElem (by omega)
    have w2 := hx _ _ hg
    obtain ⟨v1, v2, v3, v4, v5, v6, v7, v8, v9⟩ := h2 k _ hg
    have hprev : 0 < k → ∃ f : Ent, LdN L bb (o + (k - 1) * 5) 3 [.int .i64 f.p.id, .int .i64 f.p.x, .int .i64 f.p.y] ∧ up f.p es[k].p ≤ 0 := fun h0 => by
      have hg' : es[k - 1]? = some es[k - 1] := List.getElem?_eq_getElem (by omega)
      exact ⟨es[k - 1], (hx _ _ hg').part 3 rfl, h1 (k - 1) _ _ hg' (by rw [Nat.sub_add_cancel h0]; exact hg)⟩
    generalize es[k] = e at *
    have w4 : LdN L bb (o + k * 5) 5 [.int .i64 e.p.id, .int .i64 e.p.x, .int .i64 e.p.y, .int .i64 e.low, .int .i64 e.high] := w2
    have n0 : ¬ (e.low + e.high ≠ (k : Int)) := by omega
    have n1 : ¬ ((lo.es.length : Int) < e.low) := by omega
    have n2 : ¬ ((hi.es.length : Int) < e.high) := by omega
    have n3 : ¬ ((lo.pts.countP (aheadF e.p true) : Int) < e.low) := by omega
    have n4 : ¬ ((hi.pts.countP (aheadF e.p true) : Int) < e.high) := by omega
    have n5 : ¬ (e.low < (lo.pts.countP (aheadF e.p false) : Int)) := by omega
    have n6 : ¬ (e.high < (hi.pts.countP (aheadF e.p false) : Int)) := by omega
    refine GN ?_
    refine G_region ?_
    refine GQ (ev_move rfl) ?_
    (first | refine GQ (ev_indexAddrN rfl rfl NgA) ?_ | refine GQ (ev_indexAddr rfl rfl NgA NgA) ?_)
    refine GQ (ev_loadN rfl LnA) ?_
    refine GE eff_alloc ?_; rintro _ _ ⟨b5, rfl, rfl⟩
    refine GQ (ev_assign rfl) ?_
    refine GE (eff_storeN rfl rfl rfl rfl UpA) ?_; rintro _ _ ⟨rfl, rfl⟩
    refine GO_nil ?_
    by_cases h0 : 0 < k
    · obtain ⟨f, w5, w6⟩ := hprev h0
      have w7 : ¬ (0 < up f.p e.p) := by omega
      refine GN ?_
      refine G_draw (.q 0 (.q 1 (.q 2 (.q 3 (.q 4 (.q 5 (.q 6 (.q 7 (.q 8 (.q 9 (.q 10 (.q 11 (.q 12 (.q 13 (.e 14 (.q 15 (.q 16 .nil))))))))))))))))) (by kernel_rfl) (by kernel_rfl) ?_
      refine RM rfl (ev_move rfl) ?_
      refine RM rfl (ev_gtr rfl rfl) ?_
      refine RM rfl (ev_move rfl) ?_
      refine RS_m_yes retB_noPanic rfl rfl rfl rfl ⟨_, rfl, (decide_eq_true (by omega))⟩ rfl (ev_move rfl) ?_
      (first | refine RS_m_yes retB_noPanic rfl rfl rfl rfl ⟨_, rfl, (decide_eq_true (by omega))⟩ rfl (ev_nilCheck rfl) ?_ | refine RS_m_yes retB_noPanic rfl rfl rfl rfl ⟨_, rfl, (decide_eq_true (by omega))⟩ rfl (ev_nilCheckF (by simp) rfl) ?_)
      refine RS_m_yes retB_noPanic rfl rfl rfl rfl ⟨_, rfl, (decide_eq_true (by omega))⟩ rfl (ev_fieldAddr rfl) ?_
      refine RS_q_yes retB_noPanic rfl rfl rfl rfl ⟨_, rfl, (decide_eq_true (by omega))⟩ rfl (ev_load rfl LdA) ?_
      refine RS_m_yes retB_noPanic rfl rfl rfl rfl ⟨_, rfl, (decide_eq_true (by omega))⟩ rfl (ev_move rfl) ?_
      (first | refine RS_m_yes retB_noPanic rfl rfl rfl rfl ⟨_, rfl, (decide_eq_true (by omega))⟩ rfl (ev_subN (q := 1) rfl rfl NgA) ?_ | refine RS_m_yes retB_noPanic rfl rfl rfl rfl ⟨_, rfl, (decide_eq_true (by omega))⟩ rfl (ev_sub rfl rfl NgA) ?_)
      (first | refine RS_m_yes retB_noPanic rfl rfl rfl rfl ⟨_, rfl, (decide_eq_true (by omega))⟩ rfl (ev_indexAddrN rfl rfl NgA) ?_ | refine RS_m_yes retB_noPanic rfl rfl rfl rfl ⟨_, rfl, (decide_eq_true (by omega))⟩ rfl (ev_indexAddr rfl rfl NgA NgA) ?_)
      refine RS_m_yes retB_noPanic rfl rfl rfl rfl ⟨_, rfl, (decide_eq_true (by omega))⟩ rfl (ev_fieldAddr rfl) ?_
      refine RS_q_yes retB_noPanic rfl rfl rfl rfl ⟨_, rfl, (decide_eq_true (by omega))⟩ rfl (ev_loadN rfl LnA) ?_
      refine RS_m_yes retB_noPanic rfl rfl rfl rfl ⟨_, rfl, (decide_eq_true (by omega))⟩ rfl (ev_fieldAddr rfl) ?_
      refine RS_q_yes retB_noPanic rfl rfl rfl rfl ⟨_, rfl, (decide_eq_true (by omega))⟩ rfl (ev_loadN rfl LnA) ?_
      refine RS_e (RE_eff_yes rfl rfl rfl ⟨_, rfl, (decide_eq_true (by omega))⟩ rfl (eff_call rfl (up_ctr f.p e.p _)) ?_); rintro _ _ ⟨rfl, rfl⟩; refine ⟨_, fun _ s => s, ExA, ?_⟩
      refine RS_m_yes retB_noPanic rfl rfl rfl rfl ⟨_, rfl, (decide_eq_true (by omega))⟩ rfl (ev_gtr rfl rfl) ?_
      refine RM rfl (ev_pick_t rfl (decide_eq_true (by omega)) rfl) ?_
      refine RS_nil ?_
      refine GN ?_
      refine G_cond_f rfl (decide_eq_false w7) ?_
      refine GN ?_
      refine G_draw (.q 0 (.q 1 (.q 2 (.q 3 (.q 4 (.q 5 (.q 6 (.q 7 (.q 8 (.q 9 (.q 10 (.q 11 (.q 12 (.q 13 (.q 14 (.q 15 (.q 16 (.e 17 (.q 18 (.q 19 (.q 20 (.q 21 (.q 22 (.q 23 (.q 24 (.q 25 (.q 26 (.e 27 (.q 28 (.q 29 .nil)))))))))))))))))))))))))))))) (by kernel_rfl) (by kernel_rfl) ?_
      refine RM rfl (ev_move rfl) ?_
      refine RM rfl (ev_move rfl) ?_
      refine RS_m_yes retB_noPanic rfl rfl rfl rfl ⟨_, rfl, rfl⟩ rfl (ev_fieldAddr rfl) ?_
      refine RS_q_yes retB_noPanic rfl rfl rfl rfl ⟨_, rfl, rfl⟩ rfl (ev_load rfl LdA) ?_
      refine RS_m_yes retB_noPanic rfl rfl rfl rfl ⟨_, rfl, rfl⟩ rfl (ev_fieldAddr rfl) ?_
      refine RS_q_yes retB_noPanic rfl rfl rfl rfl ⟨_, rfl, rfl⟩ rfl (ev_load rfl LdA) ?_
      (first | refine RS_m_yes retB_noPanic rfl rfl rfl rfl ⟨_, rfl, rfl⟩ rfl (ev_addN rfl rfl NgA) ?_ | refine RS_m_yes retB_noPanic rfl rfl rfl rfl ⟨_, rfl, rfl⟩ rfl (ev_add rfl rfl NgA) ?_)
      refine RS_m_yes retB_noPanic rfl rfl rfl rfl ⟨_, rfl, rfl⟩ rfl (ev_move rfl) ?_
      refine RS_m_yes retB_noPanic rfl rfl rfl rfl ⟨_, rfl, rfl⟩ rfl (ev_neq rfl rfl) ?_
      refine RM rfl (ev_pick_t rfl rfl rfl) ?_
      refine RM rfl (ev_move rfl) ?_
      refine RS_m_yes retB_noPanic rfl rfl rfl rfl ⟨_, rfl, (decide_eq_false n0)⟩ rfl (ev_fieldAddr rfl) ?_
      refine RS_q_yes retB_noPanic rfl rfl rfl rfl ⟨_, rfl, (decide_eq_false n0)⟩ rfl (ev_load rfl LdA) ?_
      refine RS_m_yes retB_noPanic rfl rfl rfl rfl ⟨_, rfl, (decide_eq_false n0)⟩ rfl (ev_move rfl) ?_
      (first | refine RS_m_yes retB_noPanic rfl rfl rfl rfl ⟨_, rfl, (decide_eq_false n0)⟩ rfl (ev_nilCheck rfl) ?_ | refine RS_m_yes retB_noPanic rfl rfl rfl rfl ⟨_, rfl, (decide_eq_false n0)⟩ rfl (ev_nilCheckF (by simp) rfl) ?_)
      refine RS_m_yes retB_noPanic rfl rfl rfl rfl ⟨_, rfl, (decide_eq_false n0)⟩ rfl (ev_fieldAddr rfl) ?_
      refine RS_q_yes retB_noPanic rfl rfl rfl rfl ⟨_, rfl, (decide_eq_false n0)⟩ rfl (ev_load rfl LdA) ?_
      refine RS_e (RE_eff_yes rfl rfl rfl ⟨_, rfl, (decide_eq_false n0)⟩ rfl (eff_call rfl (size_ctr (some pla) lo _ (by repeat' first | assumption | apply ArrIn.skip))) ?_); rintro _ _ ⟨rfl, rfl⟩; refine ⟨_, fun _ s => s, ExA, ?_⟩
      refine RS_m_yes retB_noPanic rfl rfl rfl rfl ⟨_, rfl, (decide_eq_false n0)⟩ rfl (ev_gtr rfl rfl) ?_
      refine RM rfl (ev_pick_f rfl (decide_eq_false n0) rfl) ?_
      refine RM rfl (ev_move rfl) ?_
      refine RS_m_yes retB_noPanic rfl rfl rfl rfl ⟨_, rfl, (decide_eq_false n1)⟩ rfl (ev_fieldAddr rfl) ?_
      refine RS_q_yes retB_noPanic rfl rfl rfl rfl ⟨_, rfl, (decide_eq_false n1)⟩ rfl (ev_load rfl LdA) ?_
      refine RS_m_yes retB_noPanic rfl rfl rfl rfl ⟨_, rfl, (decide_eq_false n1)⟩ rfl (ev_move rfl) ?_
      (first | refine RS_m_yes retB_noPanic rfl rfl rfl rfl ⟨_, rfl, (decide_eq_false n1)⟩ rfl (ev_nilCheck rfl) ?_ | refine RS_m_yes retB_noPanic rfl rfl rfl rfl ⟨_, rfl, (decide_eq_false n1)⟩ rfl (ev_nilCheckF (by simp) rfl) ?_)
      refine RS_m_yes retB_noPanic rfl rfl rfl rfl ⟨_, rfl, (decide_eq_false n1)⟩ rfl (ev_fieldAddr rfl) ?_
      refine RS_q_yes retB_noPanic rfl rfl rfl rfl ⟨_, rfl, (decide_eq_false n1)⟩ rfl (ev_load rfl LdA) ?_
      refine RS_e (RE_eff_yes rfl rfl rfl ⟨_, rfl, (decide_eq_false n1)⟩ rfl (eff_call rfl (size_ctr ph hi _ (by repeat' first | assumption | apply ArrIn.skip))) ?_); rintro _ _ ⟨rfl, rfl⟩; refine ⟨_, fun _ s => s, ExA, ?_⟩
      refine RS_m_yes retB_noPanic rfl rfl rfl rfl ⟨_, rfl, (decide_eq_false n1)⟩ rfl (ev_gtr rfl rfl) ?_
      refine RM rfl (ev_pick_f rfl (decide_eq_false n1) rfl) ?_
      refine RS_nil ?_
      refine GN ?_
      refine G_cond_f rfl (decide_eq_false n2) ?_
      refine GN ?_
      refine G_draw (.q 0 (.q 1 (.q 2 (.q 3 (.q 4 (.q 5 (.q 6 (.q 7 (.q 8 (.q 9 (.e 10 (.q 11 (.q 12 (.q 13 (.q 14 (.q 15 (.q 16 (.q 17 (.q 18 (.q 19 (.q 20 (.e 21 (.q 22 (.q 23 (.q 24 (.q 25 (.q 26 (.q 27 (.q 28 (.q 29 (.q 30 (.q 31 (.q 32 (.e 33 (.q 34 (.q 35 (.q 36 (.q 37 (.q 38 (.q 39 (.q 40 (.q 41 (.q 42 (.q 43 (.q 44 (.e 45 (.q 46 (.q 47 (.q 48 .nil))))))))))))))))))))))))))))))))))))))))))))))))) (by kernel_rfl) (by kernel_rfl) ?_
      refine RM rfl (ev_move rfl) ?_
      refine RM rfl (ev_move rfl) ?_
      refine RS_m_yes retB_noPanic rfl rfl rfl rfl ⟨_, rfl, rfl⟩ rfl (ev_fieldAddr rfl) ?_
      refine RS_q_yes retB_noPanic rfl rfl rfl rfl ⟨_, rfl, rfl⟩ rfl (ev_load rfl LdA) ?_
      refine RS_m_yes retB_noPanic rfl rfl rfl rfl ⟨_, rfl, rfl⟩ rfl (ev_move rfl) ?_
      (first | refine RS_m_yes retB_noPanic rfl rfl rfl rfl ⟨_, rfl, rfl⟩ rfl (ev_nilCheck rfl) ?_ | refine RS_m_yes retB_noPanic rfl rfl rfl rfl ⟨_, rfl, rfl⟩ rfl (ev_nilCheckF (by simp) rfl) ?_)
      refine RS_m_yes retB_noPanic rfl rfl rfl rfl ⟨_, rfl, rfl⟩ rfl (ev_fieldAddr rfl) ?_
      refine RS_q_yes retB_noPanic rfl rfl rfl rfl ⟨_, rfl, rfl⟩ rfl (ev_load rfl LdA) ?_
      refine RS_m_yes retB_noPanic rfl rfl rfl rfl ⟨_, rfl, rfl⟩ rfl (ev_fieldAddr rfl) ?_
      refine RS_q_yes retB_noPanic rfl rfl rfl rfl ⟨_, rfl, rfl⟩ rfl (ev_loadN rfl LnA) ?_
      refine RS_e (RE_eff_yes rfl rfl rfl ⟨_, rfl, rfl⟩ rfl (eff_call rfl (ahead_ctr (some pla) lo e.p true _ (by repeat' first | assumption | apply ArrIn.skip) z1)) ?_); rintro _ _ ⟨rfl, rfl⟩; refine ⟨_, fun _ s => s, ExA, ?_⟩
      refine RS_m_yes retB_noPanic rfl rfl rfl rfl ⟨_, rfl, rfl⟩ rfl (ev_gtr rfl rfl) ?_
      refine RS_m_yes retB_noPanic rfl rfl rfl rfl ⟨_, rfl, rfl⟩ rfl (ev_move rfl) ?_
      refine RS_m_yes retB_noPanic rfl rfl rfl rfl ⟨_, rfl, (decide_eq_false n3)⟩ rfl (ev_fieldAddr rfl) ?_
      refine RS_q_yes retB_noPanic rfl rfl rfl rfl ⟨_, rfl, (decide_eq_false n3)⟩ rfl (ev_load rfl LdA) ?_
      refine RS_m_yes retB_noPanic rfl rfl rfl rfl ⟨_, rfl, (decide_eq_false n3)⟩ rfl (ev_move rfl) ?_
      (first | refine RS_m_yes retB_noPanic rfl rfl rfl rfl ⟨_, rfl, (decide_eq_false n3)⟩ rfl (ev_nilCheck rfl) ?_ | refine RS_m_yes retB_noPanic rfl rfl rfl rfl ⟨_, rfl, (decide_eq_false n3)⟩ rfl (ev_nilCheckF (by simp) rfl) ?_)
      refine RS_m_yes retB_noPanic rfl rfl rfl rfl ⟨_, rfl, (decide_eq_false n3)⟩ rfl (ev_fieldAddr rfl) ?_
      refine RS_q_yes retB_noPanic rfl rfl rfl rfl ⟨_, rfl, (decide_eq_false n3)⟩ rfl (ev_load rfl LdA) ?_
      refine RS_m_yes retB_noPanic rfl rfl rfl rfl ⟨_, rfl, (decide_eq_false n3)⟩ rfl (ev_fieldAddr rfl) ?_
      refine RS_q_yes retB_noPanic rfl rfl rfl rfl ⟨_, rfl, (decide_eq_false n3)⟩ rfl (ev_loadN rfl LnA) ?_
      refine RS_e (RE_eff_yes rfl rfl rfl ⟨_, rfl, (decide_eq_false n3)⟩ rfl (eff_call rfl (ahead_ctr ph hi e.p true _ (by repeat' first | assumption | apply ArrIn.skip) z2)) ?_); rintro _ _ ⟨rfl, rfl⟩; refine ⟨_, fun _ s => s, ExA, ?_⟩
      refine RS_m_yes retB_noPanic rfl rfl rfl rfl ⟨_, rfl, (decide_eq_false n3)⟩ rfl (ev_gtr rfl rfl) ?_
      refine RS_m_yes retB_noPanic rfl rfl rfl rfl ⟨_, rfl, rfl⟩ rfl (ev_pick_f rfl (decide_eq_false n3) rfl) ?_
      refine RS_m_yes retB_noPanic rfl rfl rfl rfl ⟨_, rfl, rfl⟩ rfl (ev_move rfl) ?_
      refine RS_m_yes retB_noPanic rfl rfl rfl rfl ⟨_, rfl, (decide_eq_false n4)⟩ rfl (ev_fieldAddr rfl) ?_
      refine RS_q_yes retB_noPanic rfl rfl rfl rfl ⟨_, rfl, (decide_eq_false n4)⟩ rfl (ev_load rfl LdA) ?_
      refine RS_m_yes retB_noPanic rfl rfl rfl rfl ⟨_, rfl, (decide_eq_false n4)⟩ rfl (ev_move rfl) ?_
      (first | refine RS_m_yes retB_noPanic rfl rfl rfl rfl ⟨_, rfl, (decide_eq_false n4)⟩ rfl (ev_nilCheck rfl) ?_ | refine RS_m_yes retB_noPanic rfl rfl rfl rfl ⟨_, rfl, (decide_eq_false n4)⟩ rfl (ev_nilCheckF (by simp) rfl) ?_)
      refine RS_m_yes retB_noPanic rfl rfl rfl rfl ⟨_, rfl, (decide_eq_false n4)⟩ rfl (ev_fieldAddr rfl) ?_
      refine RS_q_yes retB_noPanic rfl rfl rfl rfl ⟨_, rfl, (decide_eq_false n4)⟩ rfl (ev_load rfl LdA) ?_
      refine RS_m_yes retB_noPanic rfl rfl rfl rfl ⟨_, rfl, (decide_eq_false n4)⟩ rfl (ev_fieldAddr rfl) ?_
      refine RS_q_yes retB_noPanic rfl rfl rfl rfl ⟨_, rfl, (decide_eq_false n4)⟩ rfl (ev_loadN rfl LnA) ?_
      refine RS_e (RE_eff_yes rfl rfl rfl ⟨_, rfl, (decide_eq_false n4)⟩ rfl (eff_call rfl (ahead_ctr (some pla) lo e.p false _ (by repeat' first | assumption | apply ArrIn.skip) z1)) ?_); rintro _ _ ⟨rfl, rfl⟩; refine ⟨_, fun _ s => s, ExA, ?_⟩
      (first | refine RS_m_yes retB_noPanic rfl rfl rfl rfl ⟨_, rfl, (decide_eq_false n4)⟩ rfl (ev_lssN rfl rfl) ?_ | refine RS_m_yes retB_noPanic rfl rfl rfl rfl ⟨_, rfl, (decide_eq_false n4)⟩ rfl (ev_lss rfl rfl) ?_)
      refine RS_m_yes retB_noPanic rfl rfl rfl rfl ⟨_, rfl, rfl⟩ rfl (ev_pick_f rfl (decide_eq_false n4) rfl) ?_
      refine RS_m_yes retB_noPanic rfl rfl rfl rfl ⟨_, rfl, rfl⟩ rfl (ev_move rfl) ?_
      refine RS_m_yes retB_noPanic rfl rfl rfl rfl ⟨_, rfl, (decide_eq_false n5)⟩ rfl (ev_fieldAddr rfl) ?_
      refine RS_q_yes retB_noPanic rfl rfl rfl rfl ⟨_, rfl, (decide_eq_false n5)⟩ rfl (ev_load rfl LdA) ?_
      refine RS_m_yes retB_noPanic rfl rfl rfl rfl ⟨_, rfl, (decide_eq_false n5)⟩ rfl (ev_move rfl) ?_
      (first | refine RS_m_yes retB_noPanic rfl rfl rfl rfl ⟨_, rfl, (decide_eq_false n5)⟩ rfl (ev_nilCheck rfl) ?_ | refine RS_m_yes retB_noPanic rfl rfl rfl rfl ⟨_, rfl, (decide_eq_false n5)⟩ rfl (ev_nilCheckF (by simp) rfl) ?_)
      refine RS_m_yes retB_noPanic rfl rfl rfl rfl ⟨_, rfl, (decide_eq_false n5)⟩ rfl (ev_fieldAddr rfl) ?_
      refine RS_q_yes retB_noPanic rfl rfl rfl rfl ⟨_, rfl, (decide_eq_false n5)⟩ rfl (ev_load rfl LdA) ?_
      refine RS_m_yes retB_noPanic rfl rfl rfl rfl ⟨_, rfl, (decide_eq_false n5)⟩ rfl (ev_fieldAddr rfl) ?_
      refine RS_q_yes retB_noPanic rfl rfl rfl rfl ⟨_, rfl, (decide_eq_false n5)⟩ rfl (ev_loadN rfl LnA) ?_
      refine RS_e (RE_eff_yes rfl rfl rfl ⟨_, rfl, (decide_eq_false n5)⟩ rfl (eff_call rfl (ahead_ctr ph hi e.p false _ (by repeat' first | assumption | apply ArrIn.skip) z2)) ?_); rintro _ _ ⟨rfl, rfl⟩; refine ⟨_, fun _ s => s, ExA, ?_⟩
      (first | refine RS_m_yes retB_noPanic rfl rfl rfl rfl ⟨_, rfl, (decide_eq_false n5)⟩ rfl (ev_lssN rfl rfl) ?_ | refine RS_m_yes retB_noPanic rfl rfl rfl rfl ⟨_, rfl, (decide_eq_false n5)⟩ rfl (ev_lss rfl rfl) ?_)
      refine RS_m_yes retB_noPanic rfl rfl rfl rfl ⟨_, rfl, rfl⟩ rfl (ev_pick_f rfl (decide_eq_false n5) rfl) ?_
      refine RM rfl (ev_pick_t rfl rfl rfl) ?_
      refine RS_nil ?_
      refine GN ?_
      refine G_cond_f rfl (decide_eq_false n6) ?_
      refine GN ?_
      refine G_region ?_
      (first | refine GQ (ev_addN (q := 1) rfl rfl NgA) ?_ | refine GQ (ev_add rfl rfl NgA) ?_)
      refine GQ (ev_move rfl) ?_
      refine GO_nil ?_
      refine GN ?_
      exact G_round (k + 1) (by omega) (by omega) ⟨rfl, rfl, rfl, rfl, rfl, trivial⟩ EnA
    · refine GN ?_
      refine G_draw (.q 0 (.q 1 (.q 2 (.q 3 (.q 4 (.q 5 (.q 6 (.q 7 (.q 8 (.q 9 (.q 10 (.q 11 (.q 12 (.q 13 (.e 14 (.q 15 (.q 16 .nil))))))))))))))))) (by kernel_rfl) (by kernel_rfl) ?_
      refine RM rfl (ev_move rfl) ?_
      refine RM rfl (ev_gtr rfl rfl) ?_
      refine RM rfl (ev_move rfl) ?_
      refine RS_q_no retB_noPanic rfl rfl rfl ⟨_, rfl, (decide_eq_false (by omega))⟩ rfl ?_
      refine RS_q_no retB_noPanic rfl rfl rfl ⟨_, rfl, (decide_eq_false (by omega))⟩ rfl ?_
      refine RS_q_no retB_noPanic rfl rfl rfl ⟨_, rfl, (decide_eq_false (by omega))⟩ rfl ?_
      refine RS_q_no retB_noPanic rfl rfl rfl ⟨_, rfl, (decide_eq_false (by omega))⟩ rfl ?_
      refine RS_q_no retB_noPanic rfl rfl rfl ⟨_, rfl, (decide_eq_false (by omega))⟩ rfl ?_
      refine RS_q_no retB_noPanic rfl rfl rfl ⟨_, rfl, (decide_eq_false (by omega))⟩ rfl ?_
      refine RS_q_no retB_noPanic rfl rfl rfl ⟨_, rfl, (decide_eq_false (by omega))⟩ rfl ?_
      refine RS_q_no retB_noPanic rfl rfl rfl ⟨_, rfl, (decide_eq_false (by omega))⟩ rfl ?_
      refine RS_q_no retB_noPanic rfl rfl rfl ⟨_, rfl, (decide_eq_false (by omega))⟩ rfl ?_
      refine RS_q_no retB_noPanic rfl rfl rfl ⟨_, rfl, (decide_eq_false (by omega))⟩ rfl ?_
      refine RS_q_no retB_noPanic rfl rfl rfl ⟨_, rfl, (decide_eq_false (by omega))⟩ rfl ?_
      refine RS_e (RE_no rfl rfl rfl ⟨_, rfl, (decide_eq_false (by omega))⟩ rfl ?_)
      refine RS_q_no retB_noPanic rfl rfl rfl ⟨_, rfl, (decide_eq_false (by omega))⟩ rfl ?_
      refine RM rfl (ev_pick_f rfl (decide_eq_false (by omega)) rfl) ?_
      refine RS_nil ?_
      refine GN ?_
      refine G_cond_f rfl rfl ?_
      refine GN ?_
      refine G_draw (.q 0 (.q 1 (.q 2 (.q 3 (.q 4 (.q 5 (.q 6 (.q 7 (.q 8 (.q 9 (.q 10 (.q 11 (.q 12 (.q 13 (.q 14 (.q 15 (.q 16 (.e 17 (.q 18 (.q 19 (.q 20 (.q 21 (.q 22 (.q 23 (.q 24 (.q 25 (.q 26 (.e 27 (.q 28 (.q 29 .nil)))))))))))))))))))))))))))))) (by kernel_rfl) (by kernel_rfl) ?_
      refine RM rfl (ev_move rfl) ?_
      refine RM rfl (ev_move rfl) ?_
      refine RS_m_yes retB_noPanic rfl rfl rfl rfl ⟨_, rfl, rfl⟩ rfl (ev_fieldAddr rfl) ?_
      refine RS_q_yes retB_noPanic rfl rfl rfl rfl ⟨_, rfl, rfl⟩ rfl (ev_load rfl LdA) ?_
      refine RS_m_yes retB_noPanic rfl rfl rfl rfl ⟨_, rfl, rfl⟩ rfl (ev_fieldAddr rfl) ?_
      refine RS_q_yes retB_noPanic rfl rfl rfl rfl ⟨_, rfl, rfl⟩ rfl (ev_load rfl LdA) ?_
      (first | refine RS_m_yes retB_noPanic rfl rfl rfl rfl ⟨_, rfl, rfl⟩ rfl (ev_addN rfl rfl NgA) ?_ | refine RS_m_yes retB_noPanic rfl rfl rfl rfl ⟨_, rfl, rfl⟩ rfl (ev_add rfl rfl NgA) ?_)
      refine RS_m_yes retB_noPanic rfl rfl rfl rfl ⟨_, rfl, rfl⟩ rfl (ev_move rfl) ?_
      refine RS_m_yes retB_noPanic rfl rfl rfl rfl ⟨_, rfl, rfl⟩ rfl (ev_neq rfl rfl) ?_
      refine RM rfl (ev_pick_t rfl rfl rfl) ?_
      refine RM rfl (ev_move rfl) ?_
      refine RS_m_yes retB_noPanic rfl rfl rfl rfl ⟨_, rfl, (decide_eq_false n0)⟩ rfl (ev_fieldAddr rfl) ?_
      refine RS_q_yes retB_noPanic rfl rfl rfl rfl ⟨_, rfl, (decide_eq_false n0)⟩ rfl (ev_load rfl LdA) ?_
      refine RS_m_yes retB_noPanic rfl rfl rfl rfl ⟨_, rfl, (decide_eq_false n0)⟩ rfl (ev_move rfl) ?_
      (first | refine RS_m_yes retB_noPanic rfl rfl rfl rfl ⟨_, rfl, (decide_eq_false n0)⟩ rfl (ev_nilCheck rfl) ?_ | refine RS_m_yes retB_noPanic rfl rfl rfl rfl ⟨_, rfl, (decide_eq_false n0)⟩ rfl (ev_nilCheckF (by simp) rfl) ?_)
      refine RS_m_yes retB_noPanic rfl rfl rfl rfl ⟨_, rfl, (decide_eq_false n0)⟩ rfl (ev_fieldAddr rfl) ?_
      refine RS_q_yes retB_noPanic rfl rfl rfl rfl ⟨_, rfl, (decide_eq_false n0)⟩ rfl (ev_load rfl LdA) ?_
      refine RS_e (RE_eff_yes rfl rfl rfl ⟨_, rfl, (decide_eq_false n0)⟩ rfl (eff_call rfl (size_ctr (some pla) lo _ (by repeat' first | assumption | apply ArrIn.skip))) ?_); rintro _ _ ⟨rfl, rfl⟩; refine ⟨_, fun _ s => s, ExA, ?_⟩
      refine RS_m_yes retB_noPanic rfl rfl rfl rfl ⟨_, rfl, (decide_eq_false n0)⟩ rfl (ev_gtr rfl rfl) ?_
      refine RM rfl (ev_pick_f rfl (decide_eq_false n0) rfl) ?_
      refine RM rfl (ev_move rfl) ?_
      refine RS_m_yes retB_noPanic rfl rfl rfl rfl ⟨_, rfl, (decide_eq_false n1)⟩ rfl (ev_fieldAddr rfl) ?_
      refine RS_q_yes retB_noPanic rfl rfl rfl rfl ⟨_, rfl, (decide_eq_false n1)⟩ rfl (ev_load rfl LdA) ?_
      refine RS_m_yes retB_noPanic rfl rfl rfl rfl ⟨_, rfl, (decide_eq_false n1)⟩ rfl (ev_move rfl) ?_
      (first | refine RS_m_yes retB_noPanic rfl rfl rfl rfl ⟨_, rfl, (decide_eq_false n1)⟩ rfl (ev_nilCheck rfl) ?_ | refine RS_m_yes retB_noPanic rfl rfl rfl rfl ⟨_, rfl, (decide_eq_false n1)⟩ rfl (ev_nilCheckF (by simp) rfl) ?_)
      refine RS_m_yes retB_noPanic rfl rfl rfl rfl ⟨_, rfl, (decide_eq_false n1)⟩ rfl (ev_fieldAddr rfl) ?_
      refine RS_q_yes retB_noPanic rfl rfl rfl rfl ⟨_, rfl, (decide_eq_false n1)⟩ rfl (ev_load rfl LdA) ?_
      refine RS_e (RE_eff_yes rfl rfl rfl ⟨_, rfl, (decide_eq_false n1)⟩ rfl (eff_call rfl (size_ctr ph hi _ (by repeat' first | assumption | apply ArrIn.skip))) ?_); rintro _ _ ⟨rfl, rfl⟩; refine ⟨_, fun _ s => s, ExA, ?_⟩
      refine RS_m_yes retB_noPanic rfl rfl rfl rfl ⟨_, rfl, (decide_eq_false n1)⟩ rfl (ev_gtr rfl rfl) ?_
      refine RM rfl (ev_pick_f rfl (decide_eq_false n1) rfl) ?_
      refine RS_nil ?_
      refine GN ?_
      refine G_cond_f rfl (decide_eq_false n2) ?_
      refine GN ?_
      refine G_draw (.q 0 (.q 1 (.q 2 (.q 3 (.q 4 (.q 5 (.q 6 (.q 7 (.q 8 (.q 9 (.e 10 (.q 11 (.q 12 (.q 13 (.q 14 (.q 15 (.q 16 (.q 17 (.q 18 (.q 19 (.q 20 (.e 21 (.q 22 (.q 23 (.q 24 (.q 25 (.q 26 (.q 27 (.q 28 (.q 29 (.q 30 (.q 31 (.q 32 (.e 33 (.q 34 (.q 35 (.q 36 (.q 37 (.q 38 (.q 39 (.q 40 (.q 41 (.q 42 (.q 43 (.q 44 (.e 45 (.q 46 (.q 47 (.q 48 .nil))))))))))))))))))))))))))))))))))))))))))))))))) (by kernel_rfl) (by kernel_rfl) ?_
      refine RM rfl (ev_move rfl) ?_
      refine RM rfl (ev_move rfl) ?_
      refine RS_m_yes retB_noPanic rfl rfl rfl rfl ⟨_, rfl, rfl⟩ rfl (ev_fieldAddr rfl) ?_
      refine RS_q_yes retB_noPanic rfl rfl rfl rfl ⟨_, rfl, rfl⟩ rfl (ev_load rfl LdA) ?_
      refine RS_m_yes retB_noPanic rfl rfl rfl rfl ⟨_, rfl, rfl⟩ rfl (ev_move rfl) ?_
      (first | refine RS_m_yes retB_noPanic rfl rfl rfl rfl ⟨_, rfl, rfl⟩ rfl (ev_nilCheck rfl) ?_ | refine RS_m_yes retB_noPanic rfl rfl rfl rfl ⟨_, rfl, rfl⟩ rfl (ev_nilCheckF (by simp) rfl) ?_)
      refine RS_m_yes retB_noPanic rfl rfl rfl rfl ⟨_, rfl, rfl⟩ rfl (ev_fieldAddr rfl) ?_
      refine RS_q_yes retB_noPanic rfl rfl rfl rfl ⟨_, rfl, rfl⟩ rfl (ev_load rfl LdA) ?_
      refine RS_m_yes retB_noPanic rfl rfl rfl rfl ⟨_, rfl, rfl⟩ rfl (ev_fieldAddr rfl) ?_
      refine RS_q_yes retB_noPanic rfl rfl rfl rfl ⟨_, rfl, rfl⟩ rfl (ev_loadN rfl LnA) ?_
      refine RS_e (RE_eff_yes rfl rfl rfl ⟨_, rfl, rfl⟩ rfl (eff_call rfl (ahead_ctr (some pla) lo e.p true _ (by repeat' first | assumption | apply ArrIn.skip) z1)) ?_); rintro _ _ ⟨rfl, rfl⟩; refine ⟨_, fun _ s => s, ExA, ?_⟩
      refine RS_m_yes retB_noPanic rfl rfl rfl rfl ⟨_, rfl, rfl⟩ rfl (ev_gtr rfl rfl) ?_
      refine RS_m_yes retB_noPanic rfl rfl rfl rfl ⟨_, rfl, rfl⟩ rfl (ev_move rfl) ?_
      refine RS_m_yes retB_noPanic rfl rfl rfl rfl ⟨_, rfl, (decide_eq_false n3)⟩ rfl (ev_fieldAddr rfl) ?_
      refine RS_q_yes retB_noPanic rfl rfl rfl rfl ⟨_, rfl, (decide_eq_false n3)⟩ rfl (ev_load rfl LdA) ?_
      refine RS_m_yes retB_noPanic rfl rfl rfl rfl ⟨_, rfl, (decide_eq_false n3)⟩ rfl (ev_move rfl) ?_
      (first | refine RS_m_yes retB_noPanic rfl rfl rfl rfl ⟨_, rfl, (decide_eq_false n3)⟩ rfl (ev_nilCheck rfl) ?_ | refine RS_m_yes retB_noPanic rfl rfl rfl rfl ⟨_, rfl, (decide_eq_false n3)⟩ rfl (ev_nilCheckF (by simp) rfl) ?_)
      refine RS_m_yes retB_noPanic rfl rfl rfl rfl ⟨_, rfl, (decide_eq_false n3)⟩ rfl (ev_fieldAddr rfl) ?_
      refine RS_q_yes retB_noPanic rfl rfl rfl rfl ⟨_, rfl, (decide_eq_false n3)⟩ rfl (ev_load rfl LdA) ?_
      refine RS_m_yes retB_noPanic rfl rfl rfl rfl ⟨_, rfl, (decide_eq_false n3)⟩ rfl (ev_fieldAddr rfl) ?_
      refine RS_q_yes retB_noPanic rfl rfl rfl rfl ⟨_, rfl, (decide_eq_false n3)⟩ rfl (ev_loadN rfl LnA) ?_
      refine RS_e (RE_eff_yes rfl rfl rfl ⟨_, rfl, (decide_eq_false n3)⟩ rfl (eff_call rfl (ahead_ctr ph hi e.p true _ (by repeat' first | assumption | apply ArrIn.skip) z2)) ?_); rintro _ _ ⟨rfl, rfl⟩; refine ⟨_, fun _ s => s, ExA, ?_⟩
      refine RS_m_yes retB_noPanic rfl rfl rfl rfl ⟨_, rfl, (decide_eq_false n3)⟩ rfl (ev_gtr rfl rfl) ?_
      refine RS_m_yes retB_noPanic rfl rfl rfl rfl ⟨_, rfl, rfl⟩ rfl (ev_pick_f rfl (decide_eq_false n3) rfl) ?_
      refine RS_m_yes retB_noPanic rfl rfl rfl rfl ⟨_, rfl, rfl⟩ rfl (ev_move rfl) ?_
      refine RS_m_yes retB_noPanic rfl rfl rfl rfl ⟨_, rfl, (decide_eq_false n4)⟩ rfl (ev_fieldAddr rfl) ?_
      refine RS_q_yes retB_noPanic rfl rfl rfl rfl ⟨_, rfl, (decide_eq_false n4)⟩ rfl (ev_load rfl LdA) ?_
      refine RS_m_yes retB_noPanic rfl rfl rfl rfl ⟨_, rfl, (decide_eq_false n4)⟩ rfl (ev_move rfl) ?_
      (first | refine RS_m_yes retB_noPanic rfl rfl rfl rfl ⟨_, rfl, (decide_eq_false n4)⟩ rfl (ev_nilCheck rfl) ?_ | refine RS_m_yes retB_noPanic rfl rfl rfl rfl ⟨_, rfl, (decide_eq_false n4)⟩ rfl (ev_nilCheckF (by simp) rfl) ?_)
      refine RS_m_yes retB_noPanic rfl rfl rfl rfl ⟨_, rfl, (decide_eq_false n4)⟩ rfl (ev_fieldAddr rfl) ?_
      refine RS_q_yes retB_noPanic rfl rfl rfl rfl ⟨_, rfl, (decide_eq_false n4)⟩ rfl (ev_load rfl LdA) ?_
      refine RS_m_yes retB_noPanic rfl rfl rfl rfl ⟨_, rfl, (decide_eq_false n4)⟩ rfl (ev_fieldAddr rfl) ?_
      refine RS_q_yes retB_noPanic rfl rfl rfl rfl ⟨_, rfl, (decide_eq_false n4)⟩ rfl (ev_loadN rfl LnA) ?_
      refine RS_e (RE_eff_yes rfl rfl rfl ⟨_, rfl, (decide_eq_false n4)⟩ rfl (eff_call rfl (ahead_ctr (some pla) lo e.p false _ (by repeat' first | assumption | apply ArrIn.skip) z1)) ?_); rintro _ _ ⟨rfl, rfl⟩; refine ⟨_, fun _ s => s, ExA, ?_⟩
      (first | refine RS_m_yes retB_noPanic rfl rfl rfl rfl ⟨_, rfl, (decide_eq_false n4)⟩ rfl (ev_lssN rfl rfl) ?_ | refine RS_m_yes retB_noPanic rfl rfl rfl rfl ⟨_, rfl, (decide_eq_false n4)⟩ rfl (ev_lss rfl rfl) ?_)
      refine RS_m_yes retB_noPanic rfl rfl rfl rfl ⟨_, rfl, rfl⟩ rfl (ev_pick_f rfl (decide_eq_false n4) rfl) ?_
      refine RS_m_yes retB_noPanic rfl rfl rfl rfl ⟨_, rfl, rfl⟩ rfl (ev_move rfl) ?_
      refine RS_m_yes retB_noPanic rfl rfl rfl rfl ⟨_, rfl, (decide_eq_false n5)⟩ rfl (ev_fieldAddr rfl) ?_
      refine RS_q_yes retB_noPanic rfl rfl rfl rfl ⟨_, rfl, (decide_eq_false n5)⟩ rfl (ev_load rfl LdA) ?_
      refine RS_m_yes retB_noPanic rfl rfl rfl rfl ⟨_, rfl, (decide_eq_false n5)⟩ rfl (ev_move rfl) ?_
      (first | refine RS_m_yes retB_noPanic rfl rfl rfl rfl ⟨_, rfl, (decide_eq_false n5)⟩ rfl (ev_nilCheck rfl) ?_ | refine RS_m_yes retB_noPanic rfl rfl rfl rfl ⟨_, rfl, (decide_eq_false n5)⟩ rfl (ev_nilCheckF (by simp) rfl) ?_)
      refine RS_m_yes retB_noPanic rfl rfl rfl rfl ⟨_, rfl, (decide_eq_false n5)⟩ rfl (ev_fieldAddr rfl) ?_
      refine RS_q_yes retB_noPanic rfl rfl rfl rfl ⟨_, rfl, (decide_eq_false n5)⟩ rfl (ev_load rfl LdA) ?_
      refine RS_m_yes retB_noPanic rfl rfl rfl rfl ⟨_, rfl, (decide_eq_false n5)⟩ rfl (ev_fieldAddr rfl) ?_
      refine RS_q_yes retB_noPanic rfl rfl rfl rfl ⟨_, rfl, (decide_eq_false n5)⟩ rfl (ev_loadN rfl LnA) ?_
      refine RS_e (RE_eff_yes rfl rfl rfl ⟨_, rfl, (decide_eq_false n5)⟩ rfl (eff_call rfl (ahead_ctr ph hi e.p false _ (by repeat' first | assumption | apply ArrIn.skip) z2)) ?_); rintro _ _ ⟨rfl, rfl⟩; refine ⟨_, fun _ s => s, ExA, ?_⟩
      (first | refine RS_m_yes retB_noPanic rfl rfl rfl rfl ⟨_, rfl, (decide_eq_false n5)⟩ rfl (ev_lssN rfl rfl) ?_ | refine RS_m_yes retB_noPanic rfl rfl rfl rfl ⟨_, rfl, (decide_eq_false n5)⟩ rfl (ev_lss rfl rfl) ?_)
      refine RS_m_yes retB_noPanic rfl rfl rfl rfl ⟨_, rfl, rfl⟩ rfl (ev_pick_f rfl (decide_eq_false n5) rfl) ?_
      refine RM rfl (ev_pick_t rfl rfl rfl) ?_
      refine RS_nil ?_
      refine GN ?_
      refine G_cond_f rfl (decide_eq_false n6) ?_
      refine GN ?_
      refine G_region ?_
      (first | refine GQ (ev_addN (q := 1) rfl rfl NgA) ?_ | refine GQ (ev_add rfl rfl NgA) ?_)
      refine GQ (ev_move rfl) ?_
      refine GO_nil ?_
      refine GN ?_
      exact G_round (k + 1) (by omega) (by omega) ⟨rfl, rfl, rfl, rfl, rfl, trivial⟩ EnA
  · refine GN ?_
    refine G_draw (.q 0 (.q 1 (.q 2 (.q 3 (.e 4 (.q 5 (.q 6 (.q 7 (.q 8 (.q 9 (.e 10 (.q 11 (.q 12 (.q 13 (.q 14 (.q 15 (.q 16 (.q 17 (.q 18 (.q 19 (.q 20 (.q 21 (.q 22 (.q 23 (.q 24 (.q 26 (.q 27 (.q 28 (.q 29 (.e 25 (.e 30 (.q 31 (.q 32 (.q 33 (.q 34 (.q 35 .nil)))))))))))))))))))))))))))))))))))) (by kernel_rfl) (by kernel_rfl) ?_
    refine RM rfl (ev_move rfl) ?_
    (first | refine RM rfl (ev_nilCheck rfl) ?_ | refine RM rfl (ev_nilCheckF (by simp) rfl) ?_)
    refine RM rfl (ev_fieldAddr rfl) ?_
    refine RQ rfl (ev_load rfl LdA) ?_
    refine RS_e (RE_eff rfl rfl rfl (eff_call rfl (slo _ _ (by repeat' first | assumption | apply ArrIn.skip))) ?_); rintro _ _ ⟨rfl, rfl⟩; refine ⟨_, fun _ s => s, ExA, ?_⟩
    refine RM rfl (ev_move rfl) ?_
    refine RS_m_yes retB_noPanic rfl rfl rfl rfl ⟨_, rfl, rfl⟩ rfl (ev_move rfl) ?_
    (first | refine RS_m_yes retB_noPanic rfl rfl rfl rfl ⟨_, rfl, rfl⟩ rfl (ev_nilCheck rfl) ?_ | refine RS_m_yes retB_noPanic rfl rfl rfl rfl ⟨_, rfl, rfl⟩ rfl (ev_nilCheckF (by simp) rfl) ?_)
    refine RS_m_yes retB_noPanic rfl rfl rfl rfl ⟨_, rfl, rfl⟩ rfl (ev_fieldAddr rfl) ?_
    refine RS_q_yes retB_noPanic rfl rfl rfl rfl ⟨_, rfl, rfl⟩ rfl (ev_load rfl LdA) ?_
    refine RS_e (RE_eff_yes rfl rfl rfl ⟨_, rfl, rfl⟩ rfl (eff_call rfl (shi _ _ (by repeat' first | assumption | apply ArrIn.skip))) ?_); rintro _ _ ⟨rfl, rfl⟩; refine ⟨_, fun _ s => s, ExA, ?_⟩
    refine RM rfl (ev_pick_t rfl rfl rfl) ?_
    refine RM rfl (ev_move rfl) ?_
    refine RS_m_yes retB_noPanic rfl rfl rfl rfl ⟨_, rfl, rfl⟩ rfl (ev_move rfl) ?_
    (first | refine RS_m_yes retB_noPanic rfl rfl rfl rfl ⟨_, rfl, rfl⟩ rfl (ev_notP rfl) ?_ | refine RS_m_yes retB_noPanic rfl rfl rfl rfl ⟨_, rfl, rfl⟩ rfl (ev_not rfl) ?_)
    refine RS_m_yes retB_noPanic rfl rfl rfl rfl ⟨_, rfl, rfl⟩ rfl (ev_move rfl) ?_
    refine RS_m_yes retB_noPanic rfl rfl rfl rfl ⟨_, rfl, rfl⟩ rfl (ev_move rfl) ?_
    (first | refine RS_m_yes retB_noPanic rfl rfl rfl rfl ⟨_, rfl, rfl⟩ rfl (ev_nilCheck rfl) ?_ | refine RS_m_yes retB_noPanic rfl rfl rfl rfl ⟨_, rfl, rfl⟩ rfl (ev_nilCheckF (by simp) rfl) ?_)
    refine RS_m_yes retB_noPanic rfl rfl rfl rfl ⟨_, rfl, rfl⟩ rfl (ev_fieldAddr rfl) ?_
    refine RS_q_yes retB_noPanic rfl rfl rfl rfl ⟨_, rfl, rfl⟩ rfl (ev_load rfl LdA) ?_
    refine RS_q_yes retB_noPanic rfl rfl rfl rfl ⟨_, rfl, rfl⟩ rfl (ev_len rfl) ?_
    refine RS_m_yes retB_noPanic rfl rfl rfl rfl ⟨_, rfl, rfl⟩ rfl (ev_move rfl) ?_
    (first | refine RS_m_yes retB_noPanic rfl rfl rfl rfl ⟨_, rfl, rfl⟩ rfl (ev_nilCheck rfl) ?_ | refine RS_m_yes retB_noPanic rfl rfl rfl rfl ⟨_, rfl, rfl⟩ rfl (ev_nilCheckF (by simp) rfl) ?_)
    refine RS_m_yes retB_noPanic rfl rfl rfl rfl ⟨_, rfl, rfl⟩ rfl (ev_fieldAddr rfl) ?_
    refine RS_q_yes retB_noPanic rfl rfl rfl rfl ⟨_, rfl, rfl⟩ rfl (ev_load rfl LdA) ?_
    refine RS_m_yes retB_noPanic rfl rfl rfl rfl ⟨_, rfl, rfl⟩ rfl (ev_move rfl) ?_
    (first | refine RS_m_yes retB_noPanic rfl rfl rfl rfl ⟨_, rfl, rfl⟩ rfl (ev_nilCheck rfl) ?_ | refine RS_m_yes retB_noPanic rfl rfl rfl rfl ⟨_, rfl, rfl⟩ rfl (ev_nilCheckF (by simp) rfl) ?_)
    refine RS_m_yes retB_noPanic rfl rfl rfl rfl ⟨_, rfl, rfl⟩ rfl (ev_fieldAddr rfl) ?_
    refine RS_q_yes retB_noPanic rfl rfl rfl rfl ⟨_, rfl, rfl⟩ rfl (ev_load rfl LdA) ?_
    refine RS_e (RE_eff_yes rfl rfl rfl ⟨_, rfl, rfl⟩ rfl (eff_call rfl (size_ctr (some pla) lo _ (by repeat' first | assumption | apply ArrIn.skip))) ?_); rintro _ _ ⟨rfl, rfl⟩; refine ⟨_, fun _ s => s, ExA, ?_⟩
    refine RS_e (RE_eff_yes rfl rfl rfl ⟨_, rfl, rfl⟩ rfl (eff_call rfl (size_ctr ph hi _ (by repeat' first | assumption | apply ArrIn.skip))) ?_); rintro _ _ ⟨rfl, rfl⟩; refine ⟨_, fun _ s => s, ExA, ?_⟩
    (first | refine RS_m_yes retB_noPanic rfl rfl rfl rfl ⟨_, rfl, rfl⟩ rfl (ev_addN rfl rfl NgA) ?_ | refine RS_m_yes retB_noPanic rfl rfl rfl rfl ⟨_, rfl, rfl⟩ rfl (ev_add rfl rfl NgA) ?_)
    refine RS_m_yes retB_noPanic rfl rfl rfl rfl ⟨_, rfl, rfl⟩ rfl (ev_eql rfl rfl) ?_
    refine RS_m_yes retB_noPanic rfl rfl rfl rfl ⟨_, rfl, rfl⟩ rfl (ev_pick_f rfl rfl rfl) ?_
    refine RM rfl (ev_pick_t rfl rfl rfl) ?_
    refine RM rfl (ev_assign rfl) ?_
    refine RS_nil ?_
    refine GN ?_
    refine G_ret rfl (.tmp rfl .nil) EnA ⟨by simp [retv]; omega, rfl⟩
end Go.Proofs.YtkoncepjfgnjlaaGreat
/- The law CascadeLeads' walk. -/
namespace Go.Proofs.YtkoncepjfgnjlaaGreat
attribute [local irreducible] sat
set_option linter.unusedVariables false
set_option linter.unusedSimpArgs false
set_option maxRecDepth 100000

theorem Len_ctr (p : Option Addr) (t : Arr) (L : List HP) (h : ArrIn L p t) : Ctr Tryz.prog 100 #[.pointer p] L fun v L' => v = .int .i64 (t.es.length : Nat) ∧ L' = L := by
  refine Ctr_of (fn := Tryz.f100) (n := 5) Tryz.func100 rfl rfl rfl ?_
  intro g F
  refine GN ?_
  refine G_region ?_
  refine GQ (ev_assign rfl) ?_
  refine GO_nil ?_
  refine GN ?_
  refine G_region ?_
  refine GQ (ev_move rfl) ?_
  refine GE (eff_call rfl (size_ctr p t _ (by repeat' first | assumption | apply ArrIn.skip))) ?_; rintro _ _ ⟨rfl, rfl⟩
  refine GQ (ev_assign rfl) ?_
  refine GO_nil ?_
  refine GN ?_
  refine G_ret rfl (.tmp rfl .nil) EnA ⟨rfl, rfl⟩
theorem Check_ctr (a : Addr) (L : List HP) (hs : ∀ X, Ctr Tryz.prog 101 #[.pointer (some a)] (X :: L) fun v M => v = .bool true ∧ M = X :: L) : Ctr Tryz.prog 68 #[.pointer (some a)] L fun v L' => v = .bool true ∧ L' = L := by
  refine Ctr_of (fn := Tryz.f68) (n := 9) Tryz.func68 rfl rfl rfl ?_
  intro g F
  refine GN ?_
  refine G_region ?_
  refine GQ (ev_assign rfl) ?_
  refine GO_nil ?_
  refine GN ?_
  refine G_region ?_
  refine GQ (ev_move rfl) ?_
  (first | refine GQ (ev_neqNil rfl rfl) ?_ | refine GQ (ev_neqPtr rfl rfl) ?_)
  refine GQ (ev_move rfl) ?_
  refine GO_yes rfl rfl rfl rfl ?_
  refine GQ (ev_move rfl) ?_
  refine GO_yes rfl rfl rfl rfl ?_
  refine GE (eff_call rfl (hs F)) ?_; rintro _ _ ⟨rfl, rfl⟩
  refine GQ (ev_pick_t rfl rfl rfl) ?_
  refine GQ (ev_assign rfl) ?_
  refine GO_nil ?_
  refine GN ?_
  refine G_ret rfl (.tmp rfl .nil) EnA ⟨rfl, rfl⟩
def pa : Pt := ⟨1, 0, 5⟩
def pb : Pt := ⟨2, 3, 2⟩
end Go.Proofs.YtkoncepjfgnjlaaGreat
/- A tree of lists that lead into one another: Report, Count, Levels, Check. -/
namespace Go.Proofs.YtkoncepjfgnjlaaGreat
attribute [local irreducible] sat
set_option linter.unusedVariables false
set_option linter.unusedSimpArgs false
set_option maxRecDepth 100000

/-- The ids of those that are in a box. -/
def idsB (b : Bx) (l : List Pt) : List Int := srt ((l.filter (inB b)).map (·.id))
theorem begR_fnd {b : Bx} {T : RT} {l : List Pt} (o : T.of l) (a : AscO Pt.less l) : srt ((begR b T).fnd b) = idsB b l := by
  unfold idsB begR
  by_cases hy : b.y1 ≤ b.y2
  · rw [if_pos hy]; exact srt_congr (o.fnd_perm hy a)
  · rw [if_neg hy]
    have : l.filter (inB b) = [] := List.filter_eq_nil_iff.2 fun p _ => by unfold inB Bx.has wthn; simp; omega
    rw [this]; rfl
theorem begR_good {b : Bx} {T : RT} (h : T.good) : (begR b T).good ∧ (begR b T).sz ≤ T.sz ∧ (b.y1 ≤ b.y2 ∨ begR b T = .nil) := by
  unfold begR
  by_cases hy : b.y1 ≤ b.y2
  · rw [if_pos hy]; exact ⟨h, Nat.le_refl _, .inl hy⟩
  · rw [if_neg hy]; exact ⟨⟨[], rfl, .nil⟩, Nat.zero_le _, .inr rfl⟩
theorem begR_in {b : Bx} {T : RT} {L : List HP} (h : RIn L T) : RIn L (begR b T) := by
  unfold begR; split
  · exact h
  · trivial
theorem begR_fnd_len {b : Bx} {T : RT} (h : T.good) : ((begR b T).fnd b).length ≤ T.sz := by
  obtain ⟨g1, g2, g3⟩ := begR_good (b := b) h
  rcases g3 with g3 | g3
  · have := g1.fnd_len g3; omega
  · rw [g3]; exact Nat.zero_le _
section
variable {t : Nat} {T : RT} {A : Option Addr} {c : Nat} {l : List Pt} {L : List HP} (h : TR L t T A c l)
include h
theorem tBegin_ctr (b : Bx) : Ctr Tryz.prog 83 #[.pointer (some ⟨t, 0, none⟩), .agg #[.int .i64 b.x1, .int .i64 b.x2, .int .i64 b.y1, .int .i64 b.y2]] L fun v L' => v = .agg #[.pointer (begR b T).addr, .int .i64 ((begR b T).arr.pts.countP (belowF b.y1) : Nat), .int .i64 ((begR b T).arr.pts.countP (upToF b.y2) : Nat)] ∧ L' = L := by
  refine Ctr_of (fn := Tryz.f83) (n := 8) Tryz.func83 rfl rfl rfl ?_
  intro g F
  refine GN ?_
  refine G_region ?_
  refine GE (eff_box rfl) ?_; rintro _ _ ⟨b3, rfl, rfl⟩
  refine GE eff_alloc ?_; rintro _ _ ⟨b4, rfl, rfl⟩
  refine GO_nil ?_
  refine GN ?_
  refine G_region ?_
  refine GQ (ev_move rfl) ?_
  refine GQ (ev_loadN rfl LnA) ?_
  refine GE (eff_call rfl (tbegin_ctr (by repeat' first | exact h | apply TR.skip) b)) ?_; rintro _ _ ⟨rfl, rfl⟩
  refine GE (eff_storeN rfl rfl rfl rfl UpA) ?_; rintro _ _ ⟨rfl, rfl⟩
  refine GO_nil ?_
  refine GN ?_
  refine G_ret rfl (.cell rfl (loadN_run LnA) .nil) EnA ⟨rfl, rfl⟩
theorem tCount_ctr (b : Bx) (hn : l.length ≤ 100000) : Ctr Tryz.prog 51 #[.pointer (some ⟨t, 0, none⟩), .agg #[.int .i64 b.x1, .int .i64 b.x2, .int .i64 b.y1, .int .i64 b.y2]] L fun v L' => v = .int .i64 ((idsB b l).length : Nat) ∧ L' = L := by
  have hsz : T.sz = l.length := h.o.len
  obtain ⟨g1, g2, g3⟩ := begR_good (b := b) h.good
  have hfl := begR_fnd_len (b := b) h.good
  have e := begR_fnd (b := b) h.o h.a
  rw [← e]
  have hin := begR_in (b := b) h.i
  have ha := fun A1 M (hi : RIn M (begR b T)) (hr : Rd M A1 1 (partsR b [begR b T])) => all_ctr b (wtR [begR b T]) [begR b T] A1 1 1 M rfl (by simpa using g1) (by simp only [spR, List.map_cons, List.map_nil, List.sum_cons, List.sum_nil]; omega) (g3.imp id fun e x hx => by simp at hx; rw [hx, e]) (by omega) (by simpa using hi) hr
  have e1 : fndR b [begR b T] = (begR b T).fnd b := by simp [fndR]
  rw [e1] at ha
  have hsl := srtI_len ((begR b T).fnd b)
  rw [hsl]
  have hb := fun M hM => tbegin_ctr (L := M) (t := t) (T := T) (A := A) (c := c) (l := l) hM b
  generalize begR b T = x at *
  have hrd : ∀ (X : Nat) (M : List HP), Rd (blk X 84 [.pointer x.addr, .int .i64 (x.arr.pts.countP (belowF b.y1) : Nat), .int .i64 (x.arr.pts.countP (upToF b.y2) : Nat)] :: M) (some ⟨X, 0, none⟩) 1 (partsR b [x]) := fun X M => Rc.blk rfl
  refine Ctr_of (fn := Tryz.f51) (n := 17) Tryz.func51 rfl rfl rfl ?_
  intro g F
  refine GN ?_
  refine G_region ?_
  refine GE (eff_box rfl) ?_; rintro _ _ ⟨b3, rfl, rfl⟩
  refine GQ (ev_assign rfl) ?_
  refine GO_nil ?_
  refine GN ?_
  refine G_draw (.q 0 (.q 1 (.q 2 (.e 3 (.e 4 (.e 5 (.q 6 (.q 7 (.q 8 (.q 9 (.q 10 .nil))))))))))) (by kernel_rfl) (by kernel_rfl) ?_
  refine RQ rfl (ev_loadN rfl LnA) ?_
  refine RM rfl (ev_move rfl) ?_
  refine RQ rfl (ev_loadN rfl LnA) ?_
  refine RS_e (RE_eff rfl rfl rfl (eff_call rfl (hb _ (by repeat' first | exact h | apply TR.skip))) ?_); rintro _ _ ⟨rfl, rfl⟩; refine ⟨_, fun _ s => s, ExA, ?_⟩
  refine RS_e (RE_eff rfl rfl rfl (eff_buildSlice1 (by rfl) rfl rfl) ?_); rintro _ _ ⟨b12, rfl, rfl⟩; refine ⟨_, fun _ s => s, ExA, ?_⟩
  refine RS_e (RE_eff rfl rfl rfl (eff_call rfl (ha (some ⟨b12, 0, none⟩) _ (by repeat' first | exact hin | apply RIn.skip) (hrd _ _))) ?_); rintro _ _ ⟨A2, c2, rfl, hA2, rfl⟩; refine ⟨_, fun _ s => s, ExA, ?_⟩
  refine RM rfl (ev_move rfl) ?_
  refine RM rfl (ev_extract rfl rfl) ?_
  refine RM rfl (ev_extract rfl rfl) ?_
  refine RM rfl (ev_assign rfl) ?_
  refine RM rfl (ev_assign rfl) ?_
  refine RS_nil ?_
  refine GN ?_
  refine G_region ?_
  refine GQ (ev_move rfl) ?_
  refine GQ (ev_assign rfl) ?_
  refine GO_nil ?_
  refine GN ?_
  refine G_ret rfl (.tmp rfl .nil) EnA ⟨rfl, rfl⟩
end
end Go.Proofs.YtkoncepjfgnjlaaGreat
/- A range over a function, with two variables. No program stands in this text. -/
namespace Go.Proofs.YtkoncepjfgnjlaaGreat
open Go.RowKit
set_option linter.unusedVariables false
set_option linter.unusedSimpArgs false
section
variable {P : Program} {fn : Func} {g : Glob} {n : Nat} {K : List Kt} {σ : Env} {L : List HP} {B : Exit → Act → World → Prop}
theorem Yld_of2 {ι : Type} {τ : ι → Env} {M : ι → List HP} {Fy : ι → Prop} {l d : Nat} {fid : FuncId} {tmps : Array Value} {p p' : Tmp} {x x' : Value} {assign body : Code} {τ0 : Env} {post : Bool → List HP → Prop} {R : LoopState → Option Code → Obj} (hR : R = fun st q => .loop ⟨st, q, fid, tmps, #[p, p'], assign, body, d⟩) (hsz : tmps.size = n) (hτ : SatE τ0 ⟨tmps, []⟩) (hp : Nat.blt p n = true) (hp' : Nat.blt p' n = true)
    (hA : ∀ g F, g.rnd = some l → g.dfs = [] → G P (fun _ _ _ => False) g n [.code assign, .inv (fun a w => ∃ y, Fy y ∧ Sat g n (τ y) a ∧ Hp g (F :: obj l (R .ready none) :: M y) w)] ((p', x') :: (p, x) :: τ0) (F :: obj l (R .ready none) :: L))
    (hB : ∀ g F y, Fy y → g.rnd = some l → g.dfs = [] → G P (rndB g F l R post) g n [.code body] (τ y) (F :: obj l (R .busy none) :: M y)) :
    Yld P l [x, x'] (obj l (R .ready none) :: L) post := fun g F w hw => by
  subst hR
  have hw1 := hw.mono fun _ s => s.swap
  have hy := run_yield (P := P) (args := [x, x'].toArray) hw1.obj_heap rfl
  refine ⟨fid, (tmps.setIfInBounds p x).setIfInBounds p' x', assign, body, by simpa using hy, roundIn_of_wpIn trivial ?_⟩
  have hs0 : Sat ⟨g.os, g.tape, g.output, [], some l⟩ n τ0 ⟨tmps, []⟩ := ⟨hsz, rfl, hτ⟩
  have h1 := hA ⟨g.os, g.tape, g.output, [], some l⟩ F rfl rfl _ w ((hs0.put x hp).put x' hp') ⟨hw.g, hw.s⟩
  refine Code.wpIn_mono (fun e a1 w1 h => ?_) h1
  cases e with
  | normal =>
    obtain ⟨y, fy, hs1, hw2⟩ := h
    have hw3 := hw2.mono fun _ s => s.swap
    refine ⟨_, run_beginRound hw3.obj_heap rfl, ?_⟩
    have hw4 := (hw3.putO (.loop ⟨.busy, none, fid, tmps, #[p, p'], assign, body, d⟩)).mono fun _ s => s.swap
    have h2 := hB _ F y fy rfl rfl a1 _ hs1 hw4
    refine Code.wpIn_mono (fun e a3 w3 h3 => ?_) h2
    cases e with
    | normal =>
      obtain ⟨L', hp', hw5⟩ := h3
      have hw6 := hw5.mono fun _ s => s.swap
      have hw7 := (hw6.putO (.loop ⟨.ready, none, fid, tmps, #[p, p'], assign, body, d⟩)).mono fun _ s => s.swap
      exact ⟨_, _, run_endRound none hw6.obj_heap, true, _, rfl, hp', ⟨hw7.g, hw7.s⟩⟩
    | ret =>
      obtain ⟨L', hp', hw5⟩ := h3
      have hw6 := hw5.mono fun _ s => s.swap
      have hw7 := (hw6.putO (.loop ⟨.done, some .ret, fid, tmps, #[p, p'], assign, body, d⟩)).mono fun _ s => s.swap
      exact ⟨_, _, run_endRound (some .ret) hw6.obj_heap, false, _, rfl, hp', ⟨hw7.g, hw7.s⟩⟩
    | exit id =>
      obtain ⟨L', hp', hw5⟩ := h3
      have hw6 := hw5.mono fun _ s => s.swap
      have hw7 := (hw6.putO (.loop ⟨.done, some (.exit id), fid, tmps, #[p, p'], assign, body, d⟩)).mono fun _ s => s.swap
      exact ⟨_, _, run_endRound (some (.exit id)) hw6.obj_heap, false, _, rfl, hp', ⟨hw7.g, hw7.s⟩⟩
    | _ => exact h3.elim
  | _ => exact h.elim
/-- What a loop's rounds come to, its record being R, where it has two variables. -/
def Rnd2 (P : Program) (n : Nat) (σ : Env) (l : Nat) (p p' : Tmp) (assign body : Code) (R : LoopState → Option Code → Obj) : Prop :=
  ∀ {ι : Type} {τ : ι → Env} {M : ι → List HP} {Fy : ι → Prop} {x x' : Value} {L : List HP} {post : Bool → List HP → Prop},
    (∀ g F, g.rnd = some l → g.dfs = [] → G P (fun _ _ _ => False) g n [.code assign, .inv (fun a w => ∃ y, Fy y ∧ Sat g n (τ y) a ∧ Hp g (F :: obj l (R .ready none) :: M y) w)] ((p', x') :: (p, x) :: σ) (F :: obj l (R .ready none) :: L)) →
    (∀ g F y, Fy y → g.rnd = some l → g.dfs = [] → G P (rndB g F l R post) g n [.code body] (τ y) (F :: obj l (R .busy none) :: M y)) →
    Yld P l [x, x'] (obj l (R .ready none) :: L) post
/-- A range with two variables. -/
theorem G_range2 {g0 : Operand} {p p' : Tmp} {assign body : Code} {f : FuncId} {c1 c2 : List Value} {post : Option Code → List HP → Prop} [H : CalT P f] (hr : g.rnd = none) (hp : Nat.blt p n = true) (hp' : Nat.blt p' n = true) (hq : ev σ g0 = some (.func (.func f) c1.toArray c2.toArray))
    (hc : ∀ (l d : Nat) (R : LoopState → Option Code → Obj), Rnd2 P n σ l p p' assign body R → Ctr P f (c1 ++ [Value.func (.yield l) #[] #[]] ++ c2).toArray (obj l (R .ready none) :: obj d (.deferred (some [])) :: L)
      fun v L' => ∃ st q L1, st ≠ .busy ∧ post q L1 ∧ L' = obj l (R st q) :: obj d (.deferred (some [])) :: L1)
    (hN : ∀ d L1, post none L1 → G P B (g.withD d) n K σ (obj d (.deferred (some [])) :: L1))
    (hS : ∀ d c L1, post (some c) L1 → G P B (g.withD d) n (.code c :: K) σ (obj d (.deferred (some [])) :: L1)) :
    G P B g n (.code (.rangeFunc g0 #[p, p'] assign body) :: K) σ L :=
  G_range hr hq (fun l d fid tmps hsz hσ => hc l d (fun st q => .loop ⟨st, q, fid, tmps, #[p, p'], assign, body, d⟩) fun hA hB => Yld_of2 rfl hsz hσ hp hp' hA hB) hN hS
end
end Go.Proofs.YtkoncepjfgnjlaaGreat
/- A cursor over trees of lists: the walks. -/
namespace Go.Proofs.YtkoncepjfgnjlaaGreat
attribute [local irreducible] sat
set_option linter.unusedVariables false
set_option linter.unusedSimpArgs false
set_option maxRecDepth 100000

theorem ArrIn.mono {L M : List HP} (f : ∀ h, sat M h → sat L h) : ∀ {t : Arr} {p : Option Addr}, ArrIn L p t → ArrIn M p t
  | .nil, _, h => h
  | .node es lo hi, _, ⟨b, A, c, pl, ph, e, h1, h2, h3, h4, h5, h6⟩ => ⟨b, A, c, pl, ph, e, h1.mono f, h2.mono f, h3, h4, h5.mono f, h6.mono f⟩
theorem RIn.mono {L M : List HP} (f : ∀ h, sat M h → sat L h) : ∀ {T : RT}, RIn L T → RIn M T
  | .nil, _ => trivial
  | .node b q a u v lo hi, ⟨h1, h2, h3, h4⟩ => ⟨h1.mono f, h2.mono f, h3.mono f, h4.mono f⟩
theorem kp_len (wh : Bool) (a : List Int) : (kp wh a).length ≤ a.length := by cases wh <;> simp [kp]
theorem rcvisit_ctr (a s k : Nat) (b : Bx) (wh : Bool) (ids : List Int) (T : RT) (l : List Pt) (L : List HP) (hx : RIn L T) (ho : T.of l) (hn : l.length ≤ 1000) (hi : ids.length ≤ 1000000) :
    Ctr Tryz.prog 54 #[.pointer (some ⟨a, 0, none⟩), (prOf b T).v] (rcS a s b wh ids k :: L) fun r L' => ∃ A c N, r = .slice A (partsR b (T.nxt b)).length c ∧ L' = rcS a s b wh (ids ++ T.ids b) k :: (N ++ L) ∧ Rd (rcS a s b wh (ids ++ T.ids b) k :: (N ++ L)) A (partsR b (T.nxt b)).length (partsR b (T.nxt b)) := by
  have hlk := pLook_ctr T b l L hx ho (by omega)
  have hil : (T.ids b).length ≤ 1000 := by
    have h1 : (T.ids b).length ≤ T.arr.pts.countP (upToF b.y2) - T.arr.pts.countP (belowF b.y1) := by
      unfold RT.ids
      split
      · exact Nat.zero_le _
      · split
        · rw [srtI_len, idsOf_len _ List.countP_le_length]; exact Nat.le_refl _
        · exact Nat.zero_le _
    have h2 : T.arr.pts.countP (upToF b.y2) ≤ T.arr.pts.length := List.countP_le_length
    have h3 : T.arr.pts.length = T.arr.es.length := List.length_map _
    have h4 := ho.len
    omega
  unfold LkR at hlk
  have hpn : (T.nxt b).length = (partsR b (T.nxt b)).length := (partsR_len _ _).symm
  rw [hpn] at hlk
  refine Ctr.rc fun A c hA hc hc2 => ?_
  generalize partsR b (T.nxt b) = xs at *
  generalize T.ids b = zs at *
  have hl : (ids ++ zs).length = ids.length + zs.length := List.length_append
  have hkl := kp_len wh ids
  cases wh with
  | true =>
    have hk1 : kp true ids = ids := rfl
    have hk2 : kp true (ids ++ zs) = ids ++ zs := rfl
    rw [hk1] at *
    refine Ctr_of (fn := Tryz.f54) (n := 40) Tryz.func54 rfl rfl rfl ?_
    intro g F
    refine GN ?_
    refine G_region ?_
    refine GE (eff_box rfl) ?_; rintro _ _ ⟨b3, rfl, rfl⟩
    refine GQ (ev_assign rfl) ?_
    refine GO_nil ?_
    refine GN ?_
    refine G_draw (.q 0 (.q 1 (.q 2 (.q 3 (.q 4 (.e 5 (.q 6 (.q 7 (.q 8 (.q 9 (.q 10 (.q 11 (.q 12 .nil))))))))))))) (by kernel_rfl) (by kernel_rfl) ?_
    refine RQ rfl (ev_loadN rfl LnA) ?_
    refine RM rfl (ev_move rfl) ?_
    (first | refine RM rfl (ev_nilCheck rfl) ?_ | refine RM rfl (ev_nilCheckF (by simp) rfl) ?_)
    refine RM rfl (ev_fieldAddr rfl) ?_
    refine RQ rfl (ev_loadN rfl LnA) ?_
    refine RS_e (RE_eff rfl rfl rfl (eff_call rfl (Ctr.frame [_, _, _, _] hlk (fun _ s => s))) ?_); rintro _ _ ⟨L1, ⟨A1, c1, A2, c2, N1, rfl, rfl, m1, m2, m3, m4, m5⟩, rfl⟩; refine ⟨_, fun _ s => s, ExA, ?_⟩
    refine RM rfl (ev_move rfl) ?_
    refine RM rfl (ev_extract rfl rfl) ?_
    refine RM rfl (ev_extract rfl rfl) ?_
    refine RM rfl (ev_extract rfl rfl) ?_
    refine RM rfl (ev_assign rfl) ?_
    refine RM rfl (ev_assign rfl) ?_
    refine RM rfl (ev_assign rfl) ?_
    refine RS_nil ?_
    refine GN ?_
    refine G_region ?_
    refine GQ (ev_move rfl) ?_
    (first | refine GQ (ev_nilCheck rfl) ?_ | refine GQ (ev_nilCheckF (by simp) rfl) ?_)
    refine GQ (ev_fieldAddr rfl) ?_
    refine GQ (ev_load rfl LdA) ?_
    refine GQ (ev_move rfl) ?_
    (first | refine GQ (ev_addN rfl rfl NgA) ?_ | refine GQ (ev_add rfl rfl NgA) ?_)
    (first | refine GQ (ev_nilCheck rfl) ?_ | refine GQ (ev_nilCheckF (by simp) rfl) ?_)
    refine GQ (ev_fieldAddr rfl) ?_
    refine GE (eff_store rfl rfl rfl UpA) ?_; rintro _ _ ⟨rfl, rfl⟩
    refine GO_nil ?_
    refine GN ?_
    refine G_region ?_
    refine GQ (ev_move rfl) ?_
    (first | refine GQ (ev_nilCheck rfl) ?_ | refine GQ (ev_nilCheckF (by simp) rfl) ?_)
    refine GQ (ev_fieldAddr rfl) ?_
    refine GQ (ev_load rfl LdA) ?_
    refine GO_nil ?_
    refine GN ?_
    refine G_cond_t rfl rfl ?_
    refine GN ?_
    refine G_region ?_
    refine GQ (ev_move rfl) ?_
    refine GQ (ev_move rfl) ?_
    (first | refine GQ (ev_nilCheck rfl) ?_ | refine GQ (ev_nilCheckF (by simp) rfl) ?_)
    refine GQ (ev_fieldAddr rfl) ?_
    refine GQ (ev_load rfl LdA) ?_
    refine GQ (ev_move rfl) ?_
    refine GE (eff_append rfl rfl PkA ((by repeat' first | exact m1 | apply Rc.skip | apply Rc.app)) ((flat_one _)) (by rfl) (by decide) NgA NgA) ?_; rintro _ _ ⟨A36, c36, rfl, hc36, hm36, hn36, rfl⟩
    (first | refine GQ (ev_nilCheck rfl) ?_ | refine GQ (ev_nilCheckF (by simp) rfl) ?_)
    refine GQ (ev_fieldAddr rfl) ?_
    refine GE (eff_store rfl rfl rfl UpA) ?_; rintro _ _ ⟨rfl, rfl⟩
    refine GO_nil ?_
    refine GN ?_
    refine G_region ?_
    refine GQ (ev_move rfl) ?_
    refine GQ (ev_assign rfl) ?_
    refine GO_nil ?_
    refine GN ?_
    refine G_ret (L' := rcS a s b true (ids ++ zs) k :: (N1 ++ L)) rfl (.tmp rfl .nil) ?_ ⟨A2, c2, N1, rfl, rfl, m2.skip⟩
    apply en_pick
    focus ((repeat' first | exact Pick.here | apply Pick.skip | apply Pick.app); done)
    refine en_rc (c := c36) (A := A36) (by rw [hk2, hl]; exact hn36) ?_
    rw [hk2, hl, flat_append]
    exact EpA
  | false =>
    have hk1 : kp false ids = [] := rfl
    have hk2 : kp false (ids ++ zs) = [] := rfl
    rw [hk1] at *
    refine Ctr_of (fn := Tryz.f54) (n := 40) Tryz.func54 rfl rfl rfl ?_
    intro g F
    refine GN ?_
    refine G_region ?_
    refine GE (eff_box rfl) ?_; rintro _ _ ⟨b3, rfl, rfl⟩
    refine GQ (ev_assign rfl) ?_
    refine GO_nil ?_
    refine GN ?_
    refine G_draw (.q 0 (.q 1 (.q 2 (.q 3 (.q 4 (.e 5 (.q 6 (.q 7 (.q 8 (.q 9 (.q 10 (.q 11 (.q 12 .nil))))))))))))) (by kernel_rfl) (by kernel_rfl) ?_
    refine RQ rfl (ev_loadN rfl LnA) ?_
    refine RM rfl (ev_move rfl) ?_
    (first | refine RM rfl (ev_nilCheck rfl) ?_ | refine RM rfl (ev_nilCheckF (by simp) rfl) ?_)
    refine RM rfl (ev_fieldAddr rfl) ?_
    refine RQ rfl (ev_loadN rfl LnA) ?_
    refine RS_e (RE_eff rfl rfl rfl (eff_call rfl (Ctr.frame [_, _, _, _] hlk (fun _ s => s))) ?_); rintro _ _ ⟨L1, ⟨A1, c1, A2, c2, N1, rfl, rfl, m1, m2, m3, m4, m5⟩, rfl⟩; refine ⟨_, fun _ s => s, ExA, ?_⟩
    refine RM rfl (ev_move rfl) ?_
    refine RM rfl (ev_extract rfl rfl) ?_
    refine RM rfl (ev_extract rfl rfl) ?_
    refine RM rfl (ev_extract rfl rfl) ?_
    refine RM rfl (ev_assign rfl) ?_
    refine RM rfl (ev_assign rfl) ?_
    refine RM rfl (ev_assign rfl) ?_
    refine RS_nil ?_
    refine GN ?_
    refine G_region ?_
    refine GQ (ev_move rfl) ?_
    (first | refine GQ (ev_nilCheck rfl) ?_ | refine GQ (ev_nilCheckF (by simp) rfl) ?_)
    refine GQ (ev_fieldAddr rfl) ?_
    refine GQ (ev_load rfl LdA) ?_
    refine GQ (ev_move rfl) ?_
    (first | refine GQ (ev_addN rfl rfl NgA) ?_ | refine GQ (ev_add rfl rfl NgA) ?_)
    (first | refine GQ (ev_nilCheck rfl) ?_ | refine GQ (ev_nilCheckF (by simp) rfl) ?_)
    refine GQ (ev_fieldAddr rfl) ?_
    refine GE (eff_store rfl rfl rfl UpA) ?_; rintro _ _ ⟨rfl, rfl⟩
    refine GO_nil ?_
    refine GN ?_
    refine G_region ?_
    refine GQ (ev_move rfl) ?_
    (first | refine GQ (ev_nilCheck rfl) ?_ | refine GQ (ev_nilCheckF (by simp) rfl) ?_)
    refine GQ (ev_fieldAddr rfl) ?_
    refine GQ (ev_load rfl LdA) ?_
    refine GO_nil ?_
    refine GN ?_
    refine G_cond_f rfl rfl ?_
    refine GN ?_
    refine G_region ?_
    refine GQ (ev_move rfl) ?_
    refine GQ (ev_assign rfl) ?_
    refine GO_nil ?_
    refine GN ?_
    refine G_ret (L' := rcS a s b false (ids ++ zs) k :: (N1 ++ L)) rfl (.tmp rfl .nil) ?_ ⟨A2, c2, N1, rfl, rfl, m2.skip⟩
    apply en_pick
    focus ((repeat' first | exact Pick.here | apply Pick.skip | apply Pick.app); done)
    refine en_rc (c := c) (A := A) hA ?_
    rw [hk2, hl]
    exact EpA
theorem rcvis_good (a s : Nat) (b : Bx) (wh : Bool) (k : Nat) (tot : List Int) (L0 : List HP) (hbig : tot.length ≤ 1000000) : (rcvis a s b wh k tot L0).Good L0 where
  cal := inferInstanceAs (CalT Tryz.prog 54)
  visit := fun M x st hM hx => by
    obtain ⟨⟨l, e, h1, h2, h3⟩, h4⟩ := hx
    have h5 : RIn M x.T := h1.mono hM
    have := rcvisit_ctr a s k b wh st x.T l M h5 h2 h3 h4
    rw [← e] at this
    exact this
  next := fun l x st r h => h.next
  stop := fun st r h => (h.done).1 rfl
  cap := fun l st r h => by
    obtain ⟨h1, h2⟩ := h.cap
    exact ⟨h1, fun x hx => ⟨⟨(h2 x hx).1, h.len hbig⟩, (h2 x hx).2⟩⟩
def rcP (a : Nat) (b : Bx) (wh : Bool) (tot : List Int) (L0 : List HP) (r k : Nat) : HP := fun h => ∃ y : Nat × List PR × List Int, RcI b tot L0 y.2.1 y.2.2 r ∧ sat [rcS a y.1 b wh y.2.2 k, stkS y.1 65536 y.2.1] h
theorem Ctr.rcP {P : Program} {f : FuncId} {args : Array Value} {L L0 : List HP} {a r k : Nat} {b : Bx} {wh : Bool} {tot : List Int} {post : Value → List HP → Prop}
    (C : ∀ s l st, RcI b tot L0 l st r → Ctr P f args (rcS a s b wh st k :: stkS s 65536 l :: L) post) : Ctr P f args (rcP a b wh tot L0 r k :: L) post :=
  Ctr.open (ι := Nat × List PR × List Int) (Fa := fun y => RcI b tot L0 y.2.1 y.2.2 r) (N := fun y => [rcS a y.1 b wh y.2.2 k, stkS y.1 65536 y.2.1]) (fun _ h => h) fun y hy => C y.1 y.2.1 y.2.2 hy
theorem en_rcP {L M L0 : List HP} {a s r k : Nat} {b : Bx} {wh : Bool} {tot : List Int} {l : List PR} {st : List Int} (hI : RcI b tot L0 l st r) (f : ∀ h, sat L h → sat (rcS a s b wh st k :: stkS s 65536 l :: M) h) : ∀ h, sat L h → sat (rcP a b wh tot L0 r k :: M) h := fun h t =>
  sat.fold (N := [_, _]) (fun h q => ⟨(s, l, st), hI, q⟩) (f h t)
end Go.Proofs.YtkoncepjfgnjlaaGreat
/- A cursor over trees of lists: where it begins. -/
namespace Go.Proofs.YtkoncepjfgnjlaaGreat
attribute [local irreducible] sat
set_option linter.unusedVariables false
set_option linter.unusedSimpArgs false
set_option maxRecDepth 100000

/-- A tree, as it lies in a list. -/
structure RTr where
  t : Nat
  T : RT
  A : Option Addr
  c : Nat
  l : List Pt
instance encRTr : Enc RTr := ⟨1, fun x => [.pointer (some ⟨x.t, 0, none⟩)], fun _ => rfl, fun _ v h => by simp at h; subst h; rfl⟩
def RTr.at_ (L : List HP) (x : RTr) : Prop := TR L x.t x.T x.A x.c x.l
theorem TR.mono {L M : List HP} (f : ∀ h, sat M h → sat L h) {t : Nat} {T : RT} {A : Option Addr} {c : Nat} {l : List Pt} (h : TR L t T A c l) : TR M t T A c l := ⟨h.z.mono f, h.i.mono f, h.o, h.a, h.r.mono f, h.c1, h.c2⟩
def begs (b : Bx) (ts : List RTr) : List RT := ts.map fun x => begR b x.T
theorem Backward_ctr (A : Option Addr) (n c : Nat) (L : List HP) : Ctr Tryz.prog 81 #[.slice A n c] L fun v L' => ∃ b, v = .func (.func 109) #[] #[.pointer (some ⟨b, 0, none⟩)] ∧ L' = blk b 57 [.slice A n c] :: L := by
  refine Ctr_of (fn := Tryz.f81) (n := 4) Tryz.func81 rfl rfl rfl ?_
  intro g F
  refine GN ?_
  refine G_region ?_
  refine GE (eff_box rfl) ?_; rintro _ _ ⟨b1, rfl, rfl⟩
  refine GQ (ev_assign rfl) ?_
  refine GO_nil ?_
  refine GN ?_
  refine G_region ?_
  refine GQ (ev_makeFunc rfl rfl) ?_
  refine GQ (ev_assign rfl) ?_
  refine GO_nil ?_
  refine GN ?_
  exact G_ret (L' := blk b1 57 [.slice A n c] :: L) rfl (.tmp rfl .nil) EpA ⟨b1, rfl, rfl⟩
theorem bw_ctr (y b : Nat) (A : Option Addr) (n c : Nat) (ts : List RTr) (L : Nat → List HP) (hRd : ∀ k, k ≤ n → Rd (L k) A n ts) (hn : n ≤ 1000000)
    (hy : ∀ k x, ts.reverse[k]? = some x → Yld Tryz.prog y [.int .i64 ((n - 1 - k : Nat) : Int), .pointer (some ⟨x.t, 0, none⟩)] (L k) fun q L' => q = true ∧ L' = L (k + 1)) :
    Ctr Tryz.prog 109 #[Value.func (.yield y) #[] #[], .pointer (some ⟨b, 0, none⟩)] (blk b 57 [.slice A n c] :: L 0) fun v L' => v = .tuple #[] ∧ L' = blk b 57 [.slice A n c] :: L n := by
  have hlen : ts.length = n := (hRd 0 (Nat.zero_le _)).len (by decide)
  refine Ctr_of (fn := Tryz.f109) (n := 19) Tryz.func109 rfl rfl rfl ?_
  intro g F
  refine GN ?_
  refine G_region ?_
  refine GQ (ev_load rfl LdA) ?_
  refine GQ (ev_len rfl) ?_
  (first | refine GQ (ev_subN (q := 1) rfl rfl NgA) ?_ | refine GQ (ev_sub rfl rfl NgA) ?_)
  refine GQ (ev_assign rfl) ?_
  refine GO_nil ?_
  refine GN ?_
  refine G_loop (ι := Nat) (fun k => [(0, Value.func (.yield y) #[] #[]), (1, .pointer (some ⟨b, 0, none⟩)), (3, .int .i64 ((n : Int) - 1 - (k : Nat)))]) (fun k => F :: blk b 57 [.slice A n c] :: L k) (fun k => k ≤ n) (fun k => n - k) 0 (Nat.zero_le _) ⟨rfl, rfl, by rw [show (n : Int) - 1 - ((0 : Nat) : Int) = (n : Int) - 1 by omega]; rfl, trivial⟩ EnA ?_
  intro k f1
  refine GN ?_
  refine G_region ?_
  refine GQ (ev_move rfl) ?_
  refine GQ (ev_geq rfl rfl) ?_
  refine GO_nil ?_
  by_cases c1 : k < n
  · obtain ⟨b1, o1, rfl, x1⟩ := (hRd k f1).at_ (by omega)
    have g1 : ts.reverse[k]? = some (ts.reverse[k]'(by rw [List.length_reverse]; omega)) := List.getElem?_eq_getElem _
    generalize ts.reverse[k]'(by rw [List.length_reverse]; omega) = u at g1
    have g2 : ts[n - 1 - k]? = some u := by
      rw [List.getElem?_reverse (by omega)] at g1
      rw [← g1, hlen]
    have y1 := (x1 _ _ g2).at_ (i := 0) rfl
    have hyk := hy k u g1
    obtain ⟨i, hi⟩ : ∃ i, n - 1 - k = i := ⟨_, rfl⟩
    have hie : (n : Int) - 1 - (k : Nat) = (i : Nat) := by omega
    rw [hi] at y1 hyk
    rw [hie]
    have z1 : Ld (L k) ⟨b1, o1 + i * 1, none⟩ (.pointer (some ⟨u.t, 0, none⟩)) := y1
    refine GN ?_
    refine G_cond_t rfl (decide_eq_true (by omega)) ?_
    refine GN ?_
    refine G_region ?_
    refine GQ (ev_move rfl) ?_
    refine GQ (ev_move rfl) ?_
    refine GQ (ev_load rfl LdA) ?_
    refine GQ (ev_move rfl) ?_
    (first | refine GQ (ev_indexAddrN rfl rfl NgA) ?_ | refine GQ (ev_indexAddr rfl rfl NgA NgA) ?_)
    refine GQ (ev_load rfl LdA) ?_
    refine GO_yield rfl rfl rfl (Yld.frame [F, blk b 57 [.slice (some ⟨b1, o1, none⟩) n c]] hyk (fun _ s => s)) ?_
    rintro q L' ⟨L1, ⟨rfl, rfl⟩, rfl⟩
    refine GQ (ev_not rfl) ?_
    refine GO_nil ?_
    refine GN ?_
    refine G_cond_f rfl rfl ?_
    refine GN ?_
    refine G_region ?_
    refine GQ (ev_move rfl) ?_
    (first | refine GQ (ev_subN (q := 1) rfl rfl NgA) ?_ | refine GQ (ev_sub rfl rfl NgA) ?_)
    refine GQ (ev_assign rfl) ?_
    refine GO_nil ?_
    refine GN ?_
    exact G_round (k + 1) (by omega) (by omega) ⟨rfl, rfl, by rw [show (n : Int) - 1 - ((k + 1 : Nat) : Int) = (i : Int) - 1 by omega]; rfl, trivial⟩ EnA
  · have e : k = n := by omega
    subst e
    refine GN ?_
    refine G_cond_f rfl (decide_eq_false (by omega)) ?_
    refine GN ?_
    exact G_end (rs := []) (vs := []) (L' := blk b 57 [.slice A k c] :: L k) rfl .nil EnA ⟨rfl, rfl⟩
theorem begs_take {b : Bx} {ts : List RTr} {k : Nat} {x : RTr} (h : ts.reverse[k]? = some x) : begs b (ts.reverse.take (k + 1)) = begs b (ts.reverse.take k) ++ [begR b x.T] := by
  unfold begs
  rw [List.take_add_one, h]
  simp
theorem rcbegin_ctr (b : Bx) (A : Option Addr) (n c : Nat) (ts : List RTr) (wh : Bool) (L : List HP) (Lb : List HP) (hLb : ∀ h, sat L h → sat Lb h) (hr : Rd L A n ts) (hn : n ≤ 1000) (ht : ∀ x ∈ ts, x.at_ Lb) (h1 : ∀ x ∈ ts, x.l.length ≤ 1000) (hs : lkR b (begs b ts) ≤ 60000) :
    Ctr Tryz.prog 52 #[.agg #[.int .i64 b.x1, .int .i64 b.x2, .int .i64 b.y1, .int .i64 b.y2], .slice A n c, .bool wh] L fun v L' => ∃ a, v = .pointer (some ⟨a, 0, none⟩) ∧ L' = rcP a b wh (fndR b (begs b ts)) Lb (lkR b (begs b ts)) 0 :: L := by
  have hlen : ts.length = n := hr.len (by decide)
  refine Ctr_ofM (fn := Tryz.f52) (n := 32) Tryz.func52 rfl rfl rfl ?_
  intro g F hgb
  refine GN ?_
  refine G_region ?_
  refine GE (eff_box rfl) ?_; rintro _ _ ⟨b3, rfl, rfl⟩
  refine GQ (ev_assign rfl) ?_
  refine GO_nil ?_
  refine GN ?_
  refine G_region ?_
  refine GE (eff_call rfl (SNew_ctr _)) ?_; rintro _ _ ⟨s, rfl, rfl⟩
  refine GQ (ev_move rfl) ?_
  refine GQ (ev_extract rfl rfl) ?_
  refine GQ (ev_extract rfl rfl) ?_
  refine GE eff_alloc ?_; rintro _ _ ⟨b7, rfl, rfl⟩
  refine GE (eff_store rfl rfl rfl UpA) ?_; rintro _ _ ⟨rfl, rfl⟩
  refine GQ (ev_assign rfl) ?_
  refine GO_nil ?_
  refine GN ?_
  refine G_region ?_
  refine GQ (ev_load rfl LdA) ?_
  refine GQ (ev_loadN rfl LnA) ?_
  refine GQ (ev_move rfl) ?_
  refine GQ (ev_build rfl rfl) ?_
  refine GE (eff_box rfl) ?_; rintro _ _ ⟨b20, rfl, rfl⟩
  refine GQ (ev_assign rfl) ?_
  refine GO_nil ?_
  refine GN ?_
  refine G_region ?_
  refine GQ (ev_move rfl) ?_
  refine GE (eff_call rfl (Backward_ctr A n c _)) ?_; rintro _ _ ⟨bb, rfl, rfl⟩
  refine GO_nil ?_
  refine GN ?_
  refine G_range2 (f := 109) (c1 := []) (c2 := [.pointer (some ⟨bb, 0, none⟩)]) (post := fun p L1 => p = none ∧ L1 = stkS s 65536 (partsR b (begs b ts.reverse)) :: blk b20 87 (rcC s b wh none 0 0 0 0) :: F :: L) (by rw [← hgb]; rfl) rfl rfl rfl ?_ ?_ ?_
  · intro y d R hR
    have hv := bw_ctr y bb A n c ts (fun k => obj y (R .ready none) :: obj d (.deferred (some [])) :: stkS s 65536 (partsR b (begs b (ts.reverse.take k))) :: blk b7 85 [.pointer (some ⟨s, 0, none⟩)] :: blk b3 35 [.int .i64 b.x1, .int .i64 b.x2, .int .i64 b.y1, .int .i64 b.y2] :: blk b20 87 (rcC s b wh none 0 0 0 0) :: F :: L)
      (fun k _ => hr.skip.skip.skip.skip.skip.skip.skip) (by omega) ?_
    · refine (Ctr.pre EpA hv).post' ?_
      rintro v L' hm ⟨rfl, rfl⟩ hsat
      refine ⟨_, ⟨.ready, none, _, (by decide), ⟨rfl, rfl⟩, rfl⟩, ?_⟩
      rw [List.take_of_length_le (by rw [List.length_reverse]; omega)] at hsat
      revert hm
      exact EpA
    · intro k x hx
      have hxm : x ∈ ts := List.mem_reverse.1 (List.mem_of_getElem? hx)
      have hk : k < n := by
        have := (List.getElem?_eq_some_iff.1 hx).1
        rw [List.length_reverse] at this; omega
      have e9 := begs_take (b := b) hx
      have hxt : TR L x.t x.T x.A x.c x.l := TR.mono hLb (ht x hxm)
      refine hR (ι := Unit) (τ := fun _ => [(3, .pointer (some ⟨b3, 0, none⟩)), (7, .pointer (some ⟨b7, 0, none⟩)), (9, .pointer (some ⟨b20, 0, none⟩)), (11, .pointer (some ⟨x.t, 0, none⟩))]) (M := fun _ => obj d (.deferred (some [])) :: stkS s 65536 (partsR b (begs b (ts.reverse.take k))) :: blk b7 85 [.pointer (some ⟨s, 0, none⟩)] :: blk b3 35 [.int .i64 b.x1, .int .i64 b.x2, .int .i64 b.y1, .int .i64 b.y2] :: blk b20 87 (rcC s b wh none 0 0 0 0) :: F :: L) (Fy := fun _ => True) ?_ ?_
      · intro g F' _ _
        refine GN ?_
        refine G_region ?_
        refine GQ (ev_assign rfl) ?_
        refine GO_nil ?_
        exact G_rndStart () trivial ⟨rfl, rfl, rfl, rfl, trivial⟩ EnA
      · intro g F' _ _ _ _
        have hsl : (partsR b (begs b (ts.reverse.take k))).length = k := by
          rw [partsR_len]; unfold begs
          rw [List.length_map, List.length_take, List.length_reverse]; omega
        have hbg := fun M h => tBegin_ctr (L := M) (t := x.t) (T := x.T) (A := x.A) (c := x.c) (l := x.l) h b
        have hrd : ∀ (X : Nat) (M : List HP), Rd (blk X 84 [.pointer (begR b x.T).addr, .int .i64 ((begR b x.T).arr.pts.countP (belowF b.y1) : Nat), .int .i64 ((begR b x.T).arr.pts.countP (upToF b.y2) : Nat)] :: M) (some ⟨X, 0, none⟩) 1 (partsR b [begR b x.T]) := fun X M => Rc.blk rfl
        rw [e9, show partsR b (begs b (ts.reverse.take k) ++ [begR b x.T]) = partsR b (begs b (ts.reverse.take k)) ++ partsR b [begR b x.T] from List.map_append]
        generalize begR b x.T = z at *
        generalize partsR b (begs b (ts.reverse.take k)) = st at *
        refine GN ?_
        refine GN ?_
        refine G_draw (.q 0 (.q 1 (.q 2 (.e 3 (.e 4 (.e 5 .nil)))))) (by kernel_rfl) (by kernel_rfl) ?_
        refine RS_q rndB_noPanic rfl rfl rfl rfl (ev_load rfl LdA) ?_
        refine RS_m rndB_noPanic rfl rfl rfl rfl (ev_move rfl) ?_
        refine RS_q rndB_noPanic rfl rfl rfl rfl (ev_loadN rfl LnA) ?_
        refine RS_e (RE_eff rfl rfl rfl (eff_call rfl (hbg _ (by repeat' first | exact hxt | apply TR.skip))) ?_); rintro _ _ ⟨rfl, rfl⟩; refine ⟨_, fun _ s => s, ExA, ?_⟩
        refine RS_e (RE_eff rfl rfl rfl (eff_buildSlice1 (by rfl) rfl rfl) ?_); rintro _ _ ⟨b29, rfl, rfl⟩; refine ⟨_, fun _ s => s, ExA, ?_⟩
        refine RS_e (RE_last (by kernel_rfl) rfl rfl rfl (eff_call rfl (Ctr.pick PkA (Push_ctr s (some ⟨b29, 0, none⟩) 1 1 st (partsR b [z]) _ (by repeat' first | exact hrd _ _ | apply Rd.skip) (by omega)))) ?_); rintro _ _ ⟨rfl, rfl⟩
        refine GN ?_
        exact G_rndEnd (obj d (.deferred (some [])) :: stkS s 65536 (st ++ partsR b [z]) :: blk b7 85 [.pointer (some ⟨s, 0, none⟩)] :: blk b3 35 [.int .i64 b.x1, .int .i64 b.x2, .int .i64 b.y1, .int .i64 b.y2] :: blk b20 87 (rcC s b wh none 0 0 0 0) :: F :: L) ⟨rfl, rfl⟩ EpA
  · rintro d L1 ⟨-, rfl⟩
    refine GN ?_
    refine G_region ?_
    refine GQ (ev_move rfl) ?_
    refine GQ (ev_assign rfl) ?_
    refine GO_nil ?_
    refine GN ?_
    have e1 : (begs b ts.reverse).reverse = begs b ts := by unfold begs; rw [← List.map_reverse, List.reverse_reverse]
    have hI : RcI b (fndR b (begs b ts)) Lb (partsR b (begs b ts.reverse)) [] (lkR b (begs b ts)) := ⟨⟨begs b ts.reverse, rfl, by rw [← e1, lkR_rev], fun z hz => by
      obtain ⟨x, hx, rfl⟩ := List.mem_map.1 hz
      have hx := List.mem_reverse.1 hx
      obtain ⟨⟨q, o, _⟩, b2, b3⟩ := begR_good (b := b) (ht x hx).good
      refine ⟨begR_in (ht x hx).i, q, o, ?_⟩
      have e2 : (begR b x.T).sz = q.length := o.len
      have e3 : x.T.sz = x.l.length := (ht x hx).o.len
      have := h1 x hx
      omega, by rw [e1]; rfl⟩, hs⟩
    refine G_heap (own.nil_ 3 1) ?_
    refine G_retM [d] rfl (by rw [← hgb]; rfl) rfl (.tmp rfl .nil) (M := rcP b20 b wh (fndR b (begs b ts)) Lb (lkR b (begs b ts)) 0 :: F :: L) (L' := rcP b20 b wh (fndR b (begs b ts)) Lb (lkR b (begs b ts)) 0 :: L) ?_ EpA ⟨b20, rfl, rfl⟩
    apply en_pick
    focus ((repeat' first | exact Pick.here | apply Pick.skip | apply Pick.app); done)
    refine en_rcP (s := s) hI ?_
    have ek : kp wh [] = [] := by cases wh <;> rfl
    refine en_rc (c := 0) (A := none) (fun h => absurd h (by rw [ek]; exact Nat.lt_irrefl 0)) ?_
    rw [ek]
    exact EpA
  · rintro d e L1 ⟨h, _⟩
    cases h
end Go.Proofs.YtkoncepjfgnjlaaGreat
/- Cutting numbers out of lists in order. -/
namespace Go.Proofs.YtkoncepjfgnjlaaGreat
attribute [local irreducible] sat
set_option linter.unusedVariables false
set_option linter.unusedSimpArgs false
set_option maxRecDepth 100000

def loI (v : Int) (l : List Int) : Nat := l.countP fun x => decide (x < v)
theorem loI_at {l : List Int} (h : l.Pairwise (· ≤ ·)) (v : Int) {j : Nat} {a : Int} (hj : l[j]? = some a) : (!decide (a < v)) = true ↔ loI v l ≤ j :=
  fall_at (fun x => decide (x < v)) l (h.imp fun hab hb => by simp at *; omega) j a hj
theorem loI_le (v : Int) (l : List Int) : loI v l ≤ l.length := List.countP_le_length
theorem loI_mem {l : List Int} (h : l.Pairwise (· ≤ ·)) {v : Int} (hv : v ∈ l) : loI v l < l.length ∧ l[loI v l]? = some v := by
  obtain ⟨i, hi, e⟩ := List.mem_iff_getElem.1 hv
  have h1 : l[i]? = some v := by rw [List.getElem?_eq_getElem hi, e]
  have h2 := (loI_at h v h1).1 (by simp)
  have hlt : loI v l < l.length := by omega
  refine ⟨hlt, ?_⟩
  have h3 : l[loI v l]? = some l[loI v l] := List.getElem?_eq_getElem hlt
  have h4 := (loI_at h v h3).2 (Nat.le_refl _)
  rw [h3]
  congr 1
  have h5 : l[loI v l] ≤ v := by
    rcases Nat.lt_or_ge (loI v l) i with h9 | h9
    · have := List.pairwise_iff_getElem.1 h (loI v l) i hlt hi h9
      rwa [e] at this
    · have : loI v l = i := by omega
      rw [show l[loI v l] = l[i] from by congr 1, e]; exact Int.le_refl _
  simp at h4; omega
theorem loI_erase {l : List Int} (h : l.Pairwise (· ≤ ·)) {v : Int} (hv : v ∈ l) : l.take (loI v l) ++ l.drop (loI v l + 1) = l.erase v := by
  obtain ⟨h1, h2⟩ := loI_mem h hv
  have e : l = l.take (loI v l) ++ v :: l.drop (loI v l + 1) := by
    conv => lhs; rw [← List.take_append_drop (loI v l) l, List.drop_eq_getElem_cons h1]
    rw [List.getElem?_eq_getElem h1] at h2
    rw [Option.some.inj h2]
  have hn : v ∉ l.take (loI v l) := fun hm => by
    obtain ⟨i, hi, e1⟩ := List.mem_iff_getElem.1 hm
    rw [List.length_take] at hi
    rw [List.getElem_take] at e1
    have h3 : l[i]? = some v := by rw [List.getElem?_eq_getElem (by omega), e1]
    have := (loI_at h v h3).1 (by simp)
    omega
  conv => rhs; rw [e]
  rw [List.erase_append_right _ hn]
  simp
theorem hasI_ctr (A : Option Addr) (n c : Nat) (l : List Int) (v : Int) (L : List HP) (hl : Rd L A n l) (hn : n ≤ 1000000) (ho : l.Pairwise (· ≤ ·)) :
    Ctr Tryz.prog 88 #[.slice A n c, .int .i64 v, .func (.func 59) #[] #[]] L fun r L' => r = .tuple #[.int .i64 (loI v l : Nat), .bool (decide (v ∈ l))] ∧ L' = L := by
  have h1 : l.length = n := hl.len (by decide)
  have hk := loI_le v l
  have hfi : ∀ M, Rd M A n l → Ctr Tryz.prog 116 #[.slice A n c, .int .i64 v, .func (.func 59) #[] #[]] M fun r L' => r = .int .i64 (loI v l : Nat) ∧ L' = M := fun M hr => by
    refine Ctr_of (fn := Tryz.f116) (n := 10) Tryz.func116 rfl rfl rfl ?_
    intro g F
    refine GN ?_
    refine G_region ?_
    refine GE (eff_box rfl) ?_; rintro _ _ ⟨b4, rfl, rfl⟩
    refine GE (eff_box rfl) ?_; rintro _ _ ⟨b5, rfl, rfl⟩
    refine GQ (ev_assign rfl) ?_
    refine GO_nil ?_
    refine GN ?_
    refine G_region ?_
    refine GQ (ev_move rfl) ?_
    refine GQ (ev_makeFunc rfl rfl) ?_
    refine GE (eff_call rfl (seekI_ctr 140 [] [.pointer (some ⟨b5, 0, none⟩), .pointer (some ⟨b4, 0, none⟩)] (fun a => !decide (a < v)) A n c (loI v l) l _ RdA hn (by omega) (fun j a h => loI_at ho v h) (fun a => first1I_ctr a v b4 b5 _ LdA LdA))) ?_; rintro _ _ ⟨rfl, rfl⟩
    refine GQ (ev_assign rfl) ?_
    refine GO_nil ?_
    refine GN ?_
    refine G_ret rfl (.tmp rfl .nil) EnA ⟨rfl, rfl⟩
  have hat := fun (j : Nat) (a : Int) (h : l[j]? = some a) => loI_at ho v h
  have hmem := fun h => loI_mem (v := v) ho h
  by_cases c1 : loI v l < n
  · obtain ⟨b1, o1, rfl, x1⟩ := hl.at_ (by omega)
    have g1 : l[loI v l]? = some l[loI v l] := List.getElem?_eq_getElem (by omega)
    have y1 := (x1 _ _ g1).at_ (i := 0) rfl
    have h9 := (hat _ _ g1).2 (Nat.le_refl _)
    have hme : (!decide (v < l[loI v l])) = decide (v ∈ l) := by
      by_cases hv : v ∈ l
      · have := (hmem hv).2
        rw [g1] at this
        have e2 := Option.some.inj this
        rw [e2]; simp [hv]
      · have hne : v ≠ l[loI v l] := fun e => hv (e ▸ List.getElem_mem _)
        simp at h9
        simp [hv]; omega
    generalize l[loI v l] = u at *
    generalize loI v l = k at *
    have z1 : Ld L ⟨b1, o1 + k * 1, none⟩ (.int .i64 u) := y1
    refine Ctr_of (fn := Tryz.f88) (n := 28) Tryz.func88 rfl rfl rfl ?_
    intro g F
    refine GN ?_
    refine G_region ?_
    refine GQ (ev_assign rfl) ?_
    refine GQ (ev_assign rfl) ?_
    refine GO_nil ?_
    refine GN ?_
    refine G_region ?_
    refine GQ (ev_move rfl) ?_
    refine GQ (ev_move rfl) ?_
    refine GQ (ev_move rfl) ?_
    refine GE (eff_call rfl (hfi _ hl.skip)) ?_; rintro _ _ ⟨rfl, rfl⟩
    refine GQ (ev_assign rfl) ?_
    refine GO_nil ?_
    refine GN ?_
    refine G_region ?_
    refine GQ (ev_move rfl) ?_
    refine GQ (ev_move rfl) ?_
    refine GQ (ev_move rfl) ?_
    refine GQ (ev_len rfl) ?_
    (first | refine GQ (ev_lssN rfl rfl) ?_ | refine GQ (ev_lss rfl rfl) ?_)
    refine GQ (ev_move rfl) ?_
    refine GO_yes rfl rfl rfl (decide_eq_true c1) ?_
    refine GQ (ev_move rfl) ?_
    refine GO_yes rfl rfl rfl (decide_eq_true c1) ?_
    refine GQ (ev_move rfl) ?_
    refine GO_yes rfl rfl rfl (decide_eq_true c1) ?_
    refine GQ (ev_move rfl) ?_
    refine GO_yes rfl rfl rfl (decide_eq_true c1) ?_
    refine GQ (ev_move rfl) ?_
    refine GO_yes rfl rfl rfl (decide_eq_true c1) ?_
    (first | refine GQ (ev_indexAddrN rfl rfl NgA) ?_ | refine GQ (ev_indexAddr rfl rfl NgA NgA) ?_)
    refine GO_yes rfl rfl rfl (decide_eq_true c1) ?_
    refine GQ (ev_load rfl LdA) ?_
    refine GO_yes rfl rfl rfl (decide_eq_true c1) ?_
    refine GE (eff_callv rfl rfl (cless_ctr v u _)) ?_; rintro _ _ ⟨rfl, rfl⟩
    refine GO_yes rfl rfl rfl (decide_eq_true c1) ?_
    refine GQ (ev_not rfl) ?_
    refine GQ (ev_pick_t rfl (decide_eq_true c1) rfl) ?_
    refine GQ (ev_assign rfl) ?_
    refine GQ (ev_assign rfl) ?_
    refine GO_nil ?_
    refine GN ?_
    refine G_ret rfl (.tmp rfl (.tmp rfl .nil)) EnA ⟨by rw [← hme]; rfl, rfl⟩
  · have hv : v ∉ l := fun hv => c1 (by have := (hmem hv).1; omega)
    rw [decide_eq_false hv]
    generalize loI v l = k at *
    refine Ctr_of (fn := Tryz.f88) (n := 28) Tryz.func88 rfl rfl rfl ?_
    intro g F
    refine GN ?_
    refine G_region ?_
    refine GQ (ev_assign rfl) ?_
    refine GQ (ev_assign rfl) ?_
    refine GO_nil ?_
    refine GN ?_
    refine G_region ?_
    refine GQ (ev_move rfl) ?_
    refine GQ (ev_move rfl) ?_
    refine GQ (ev_move rfl) ?_
    refine GE (eff_call rfl (hfi _ hl.skip)) ?_; rintro _ _ ⟨rfl, rfl⟩
    refine GQ (ev_assign rfl) ?_
    refine GO_nil ?_
    refine GN ?_
    refine G_region ?_
    refine GQ (ev_move rfl) ?_
    refine GQ (ev_move rfl) ?_
    refine GQ (ev_move rfl) ?_
    refine GQ (ev_len rfl) ?_
    (first | refine GQ (ev_lssN rfl rfl) ?_ | refine GQ (ev_lss rfl rfl) ?_)
    refine GQ (ev_move rfl) ?_
    refine GO_no rfl rfl rfl (decide_eq_false c1) ?_
    refine GO_no rfl rfl rfl (decide_eq_false c1) ?_
    refine GO_no rfl rfl rfl (decide_eq_false c1) ?_
    refine GO_no rfl rfl rfl (decide_eq_false c1) ?_
    refine GO_no rfl rfl rfl (decide_eq_false c1) ?_
    refine GO_no rfl rfl rfl (decide_eq_false c1) ?_
    refine GO_no rfl rfl rfl (decide_eq_false c1) ?_
    refine GO_no rfl rfl rfl (decide_eq_false c1) ?_
    refine GQ (ev_pick_f rfl (decide_eq_false c1) rfl) ?_
    refine GQ (ev_assign rfl) ?_
    refine GQ (ev_assign rfl) ?_
    refine GO_nil ?_
    refine GN ?_
    refine G_ret rfl (.tmp rfl (.tmp rfl .nil)) EnA ⟨rfl, rfl⟩
/-- slices.Delete of one element -/
theorem DeleteI_ctr (b n c i : Nat) (l : List Int) (L : List HP) (h1 : l.length = n) (hn : n ≤ 1000000) (hi : i < n) :
    Ctr Tryz.prog 90 #[.slice (some ⟨b, 0, none⟩) n c, .int .i64 (i : Nat), .int .i64 (i + 1 : Nat)] (own 3 1 (some ⟨b, 0, none⟩) n c (flat l) :: L) fun v L' => Made 3 (l.take i ++ l.drop (i + 1)) L v L' := by
  have hlen : (l.take i ++ l.drop (i + 1)).length = i + (n - (i + 1)) := by simp; omega
  have hfl : flat (l.take i ++ l.drop (i + 1)) = (flat l).take (i * 1) ++ flat (l.drop (i + 1)) := by
    have a1 := flat_take l i
    rw [flat_append, a1]
    rfl
  have hF : (flat l).length = n * 1 := by rw [flat_length, h1]; rfl
  refine Ctr_of (fn := Tryz.f90) (n := 33) Tryz.func90 rfl rfl rfl ?_
  intro g F
  refine G_pure (fun h s => own.facts (s.tail)) ?_
  rintro ⟨f1, f2, f3, f4⟩
  have hbig2 : c ≤ 9223372036854775807 := by unfold maxLen at f3; omega
  have hsrc : ∀ L', Rc (own 3 1 (some ⟨b, 0, none⟩) n c (flat l) :: L') 1 (some ⟨b, (if c = i + 1 then 0 else 0 + (i + 1) * 1), none⟩) (n - (i + 1)) (flat (l.drop (i + 1))) := fun L' => Rd.drop (α := Int) (Rc.own hF (fun _ => ⟨b, rfl⟩)) (by omega) f2
  refine GN ?_
  refine G_region ?_
  refine GQ (ev_assign rfl) ?_
  refine GO_nil ?_
  refine GN ?_
  refine G_region ?_
  refine GQ (ev_move rfl) ?_
  refine GQ (ev_move rfl) ?_
  refine GQ (ev_move rfl) ?_
  refine GQ (ev_move rfl) ?_
  refine GQ (ev_len rfl) ?_
  refine GQ (ev_slice3 rfl rfl rfl rfl NgA NgA NgA) ?_
  refine GO_nil ?_
  refine GN ?_
  refine G_region ?_
  refine GQ (ev_move rfl) ?_
  refine GQ (ev_move rfl) ?_
  refine GQ (ev_eql rfl rfl) ?_
  refine GO_nil ?_
  refine GN ?_
  refine G_cond_f rfl (decide_eq_false (by omega)) ?_
  refine GN ?_
  refine G_region ?_
  refine GQ (ev_move rfl) ?_
  refine GQ (ev_len rfl) ?_
  refine GQ (ev_assign rfl) ?_
  refine GO_nil ?_
  refine GN ?_
  refine G_drawE 1 (.q 0 (.q 1 (.q 2 (.q 3 (.q 4 (.q 5 (.e 6 (.q 7 .nil)))))))) (by kernel_rfl) (by kernel_rfl) ?_
  refine RM rfl (ev_move rfl) ?_
  refine RM rfl (ev_move rfl) ?_
  refine RQ rfl (ev_sliceH rfl rfl NgA) ?_
  refine RM rfl (ev_move rfl) ?_
  refine RM rfl (ev_move rfl) ?_
  refine RQ rfl (ev_sliceL rfl rfl NgA NgA) ?_
  refine RS_e (RE_cmp (by kernel_rfl) rfl rfl rfl (eff_appendR rfl rfl PkA (by repeat' first | exact hsrc _ | apply Rc.skip) (flat_one _) (by omega) (by omega)) ?_); rintro _ _ ⟨rfl, rfl⟩
  refine RM rfl (ev_assign rfl) ?_
  refine RS_nil ?_
  refine GN ?_
  refine G_region ?_
  refine GQ (ev_move rfl) ?_
  refine GQ (ev_move rfl) ?_
  refine GQ (ev_len rfl) ?_
  refine GQ (ev_move rfl) ?_
  refine GQ (ev_sliceLH rfl rfl rfl NgA NgA) ?_
  refine GE (eff_clear (k := i + (n - (i + 1))) rfl rfl rfl PkA (fun _ => by rw [if_neg (by omega)]; omega) (by omega) (by omega)) ?_; rintro _ _ ⟨rfl, rfl⟩
  refine GO_nil ?_
  refine GN ?_
  refine G_region ?_
  refine GQ (ev_move rfl) ?_
  refine GQ (ev_assign rfl) ?_
  refine GO_nil ?_
  refine GN ?_
  refine G_ret (L' := own 3 1 (some ⟨b, 0, none⟩) (l.take i ++ l.drop (i + 1)).length c (flat (l.take i ++ l.drop (i + 1))) :: L) rfl (.tmp rfl .nil) ?_ ⟨some ⟨b, 0, none⟩, c, by rw [hlen]; rfl, fun _ => ⟨b, rfl⟩, rfl⟩
  rw [hlen, hfl]
  exact EpA
theorem CutI_ctr (A : Option Addr) (n c : Nat) (l : List Int) (v : Int) (L : List HP) (hl : Rd L A n l) (hn : n ≤ 100000) (ho : l.Pairwise (· ≤ ·)) :
    Ctr Tryz.prog 58 #[.slice A n c, .int .i64 v, .func (.func 59) #[] #[]] L fun r L' => ∃ A' c', r = .tuple #[.slice A' (l.erase v).length c', .bool (decide (v ∈ l))] ∧ (0 < (l.erase v).length → ∃ b, A' = some ⟨b, 0, none⟩) ∧ L' = own 3 1 A' (l.erase v).length c' (flat (l.erase v)) :: L := by
  have h1 : l.length = n := hl.len (by decide)
  have hh := fun M h => hasI_ctr A n c l v M h (by omega) ho
  by_cases hv : v ∈ l
  · obtain ⟨hlt, _⟩ := loI_mem ho hv
    have he := loI_erase ho hv
    rw [decide_eq_true hv] at hh ⊢
    rw [← he]
    generalize loI v l = k at *
    refine Ctr_of (fn := Tryz.f58) (n := 27) Tryz.func58 rfl rfl rfl ?_
    intro g F
    refine GN ?_
    refine G_region ?_
    refine GQ (ev_assign rfl) ?_
    refine GQ (ev_assign rfl) ?_
    refine GO_nil ?_
    refine GN ?_
    refine G_region ?_
    refine GQ (ev_move rfl) ?_
    refine GQ (ev_move rfl) ?_
    refine GQ (ev_move rfl) ?_
    refine GE (eff_call rfl (hh _ hl.skip)) ?_; rintro _ _ ⟨rfl, rfl⟩
    refine GQ (ev_move rfl) ?_
    refine GQ (ev_extract rfl rfl) ?_
    refine GQ (ev_extract rfl rfl) ?_
    refine GQ (ev_assign rfl) ?_
    refine GQ (ev_assign rfl) ?_
    refine GO_nil ?_
    refine GN ?_
    refine G_region ?_
    refine GQ (ev_move rfl) ?_
    refine GQ (ev_not rfl) ?_
    refine GO_nil ?_
    refine GN ?_
    refine G_cond_f rfl rfl ?_
    refine GN ?_
    refine G_region ?_
    refine GQ (ev_move rfl) ?_
    refine GE (eff_call rfl (CloneI_ctr A n c l _ RdA (by omega))) ?_; rintro _ _ ⟨A8, c8, rfl, hn8, rfl⟩
    refine GQ (ev_move rfl) ?_
    refine GQ (ev_move rfl) ?_
    (first | refine GQ (ev_addN (q := 1) rfl rfl NgA) ?_ | refine GQ (ev_add rfl rfl NgA) ?_)
    obtain ⟨b8, rfl⟩ := hn8 (by omega)
    refine GO_eff rfl rfl (eff_call rfl (Ctr.pick PkA (DeleteI_ctr b8 _ c8 k l _ rfl (by omega) (by omega)))) ?_
    rintro _ _ ⟨A15, c15, rfl, hn15, rfl⟩
    refine GQ (ev_assign rfl) ?_
    refine GQ (ev_assign rfl) ?_
    refine GO_nil ?_
    refine GN ?_
    exact G_ret (L' := own 3 1 A15 (l.take k ++ l.drop (k + 1)).length c15 (flat (l.take k ++ l.drop (k + 1))) :: L) rfl (.tmp rfl (.tmp rfl .nil)) EpA ⟨A15, c15, rfl, hn15, rfl⟩
  · rw [decide_eq_false hv] at hh ⊢
    rw [List.erase_of_not_mem hv]
    generalize loI v l = k at *
    refine Ctr_of (fn := Tryz.f58) (n := 27) Tryz.func58 rfl rfl rfl ?_
    intro g F
    refine GN ?_
    refine G_region ?_
    refine GQ (ev_assign rfl) ?_
    refine GQ (ev_assign rfl) ?_
    refine GO_nil ?_
    refine GN ?_
    refine G_region ?_
    refine GQ (ev_move rfl) ?_
    refine GQ (ev_move rfl) ?_
    refine GQ (ev_move rfl) ?_
    refine GO_eff rfl rfl (eff_call rfl (hh _ hl.skip)) ?_; rintro _ _ ⟨rfl, rfl⟩
    refine GQ (ev_move rfl) ?_
    refine GQ (ev_extract rfl rfl) ?_
    refine GQ (ev_extract rfl rfl) ?_
    refine GQ (ev_assign rfl) ?_
    refine GQ (ev_assign rfl) ?_
    refine GO_nil ?_
    refine GN ?_
    refine G_region ?_
    refine GQ (ev_move rfl) ?_
    refine GQ (ev_not rfl) ?_
    refine GO_nil ?_
    refine GN ?_
    refine G_cond_t rfl rfl ?_
    refine GN ?_
    refine G_region ?_
    refine GQ (ev_move rfl) ?_
    refine GE (eff_call rfl (CloneI_ctr A n c l _ RdA (by omega))) ?_; rintro _ _ ⟨A8, c8, rfl, hn8, rfl⟩
    refine GQ (ev_assign rfl) ?_
    refine GQ (ev_assign rfl) ?_
    refine GO_nil ?_
    refine GN ?_
    exact G_ret (L' := own 3 1 A8 l.length c8 (flat l) :: L) rfl (.tmp rfl (.tmp rfl .nil)) EpA ⟨A8, c8, rfl, hn8, rfl⟩
end Go.Proofs.YtkoncepjfgnjlaaGreat
/- A cursor over trees of lists: its calls. -/
namespace Go.Proofs.YtkoncepjfgnjlaaGreat
attribute [local irreducible] sat
set_option linter.unusedVariables false
set_option linter.unusedSimpArgs false
set_option maxRecDepth 100000

theorem rcReport_ctr (b : Bx) (A : Option Addr) (n c : Nat) (ts : List RTr) (L : List HP) (Lb : List HP) (hLb : ∀ h, sat L h → sat Lb h) (hr : Rd L A n ts) (hn : n ≤ 1000) (ht : ∀ x ∈ ts, x.at_ Lb) (h1 : ∀ x ∈ ts, x.l.length ≤ 1000) (hs : lkR b (begs b ts) ≤ 60000) :
    Ctr Tryz.prog 26 #[.agg #[.int .i64 b.x1, .int .i64 b.x2, .int .i64 b.y1, .int .i64 b.y2], .slice A n c] L fun v L' => ∃ a, v = .pointer (some ⟨a, 0, none⟩) ∧ L' = rcP a b true (fndR b (begs b ts)) Lb (lkR b (begs b ts)) 0 :: L := by
  refine Ctr_of (fn := Tryz.f26) (n := 8) Tryz.func26 rfl rfl rfl ?_
  intro g F
  refine GN ?_
  refine G_region ?_
  refine GE (eff_box rfl) ?_; rintro _ _ ⟨b2, rfl, rfl⟩
  refine GQ (ev_assign rfl) ?_
  refine GO_nil ?_
  refine GN ?_
  refine G_region ?_
  refine GQ (ev_loadN rfl LnA) ?_
  refine GQ (ev_move rfl) ?_
  refine GE (eff_call rfl (Ctr.frame [_, F] (rcbegin_ctr b A n c ts true L Lb hLb hr hn ht h1 hs) (fun _ s => s))) ?_; rintro _ _ ⟨_, ⟨a, rfl, rfl⟩, rfl⟩
  refine GQ (ev_assign rfl) ?_
  refine GO_nil ?_
  refine GN ?_
  exact G_ret (L' := rcP a b true (fndR b (begs b ts)) Lb (lkR b (begs b ts)) 0 :: L) rfl (.tmp rfl .nil) EpA ⟨a, rfl, rfl⟩
theorem rcStep_ctr (a r k : Nat) (b : Bx) (wh : Bool) (tot : List Int) (L0 L : List HP) (n : Int) (hM : ∀ h, sat L h → sat L0 h) (hbig : tot.length ≤ 1000000) (hk : k ≤ 1000000000) :
    Ctr Tryz.prog 27 #[.pointer (some ⟨a, 0, none⟩), .int .i64 n] (rcP a b wh tot L0 r k :: L) fun w L' => w = .tuple #[.int .i64 (min n.toNat r : Nat), .bool (decide (r - min n.toNat r = 0))] ∧ L' = rcP a b wh tot L0 (r - min n.toNat r) (k + min n.toNat r) :: L := by
  refine Ctr.rcP fun s l st hI => ?_
  have hrs := hI.small
  refine Ctr_of (fn := Tryz.f27) (n := 37) Tryz.func27 rfl rfl rfl ?_
  intro g F
  refine GN ?_
  refine G_region ?_
  refine GQ (ev_assign rfl) ?_
  refine GQ (ev_assign rfl) ?_
  refine GO_nil ?_
  refine GN ?_
  refine G_region ?_
  refine GQ (ev_move rfl) ?_
  (first | refine GQ (ev_eqlNil rfl rfl) ?_ | refine GQ (ev_eqlPtr rfl rfl) ?_)
  refine GO_nil ?_
  refine GN ?_
  refine G_cond_f rfl rfl ?_
  refine G_heap (L' := rcS a s b wh st k :: stkS s 65536 l :: F :: L) EpA ?_
  refine G_rc fun A c hA hc hc2 => ?_
  refine GN ?_
  refine G_region ?_
  refine GQ (ev_move rfl) ?_
  (first | refine GQ (ev_nilCheck rfl) ?_ | refine GQ (ev_nilCheckF (by simp) rfl) ?_)
  refine GQ (ev_fieldAddr rfl) ?_
  refine GQ (ev_load rfl LdA) ?_
  refine GQ (ev_move rfl) ?_
  refine GQ (ev_max0 rfl) ?_
  refine GQ (ev_move rfl) ?_
  refine GQ (ev_makeFunc rfl rfl) ?_
  refine GE (eff_call rfl (Ctr.pre (M := stkS s 65536 l :: rcS a s b wh st k :: F :: L) (by (repeat first | exact en_refl | apply en_rc (c := c) hA | (apply en_blk; focus ((repeat' first | exact Pick.here | apply Pick.skip | apply Pick.app); done); focus rfl) | (apply en_own; focus ((repeat' first | exact Pick.here | apply Pick.skip | apply Pick.app); done); focus rfl) | (apply en_pick; focus ((repeat' first | exact Pick.here | apply Pick.skip | apply Pick.app); done)) | apply en_drop | apply en_app) <;> fail) (Walk_ctr (rcvis a s b wh k tot L0) s n.toNat r l st (F :: L) L0 (rcvis_good a s b wh k tot L0 hbig) (fun h t => hM h t.tail) hI (by omega)))) ?_; rintro _ _ ⟨l', st', rfl, hI', rfl⟩
  refine GQ (ev_move rfl) ?_
  refine GQ (ev_extract rfl rfl) ?_
  refine GQ (ev_extract rfl rfl) ?_
  refine GQ (ev_assign rfl) ?_
  refine GQ (ev_assign rfl) ?_
  refine GO_nil ?_
  refine G_heap (L' := rcS a s b wh st' k :: stkS s 65536 l' :: F :: L) (fun _ t => t.swap) ?_
  refine G_rc fun A' c' hA' hc' hc2' => ?_
  refine GN ?_
  refine G_region ?_
  refine GQ (ev_move rfl) ?_
  (first | refine GQ (ev_nilCheck rfl) ?_ | refine GQ (ev_nilCheckF (by simp) rfl) ?_)
  refine GQ (ev_fieldAddr rfl) ?_
  refine GQ (ev_load rfl LdA) ?_
  refine GQ (ev_move rfl) ?_
  (first | refine GQ (ev_addN rfl rfl NgA) ?_ | refine GQ (ev_add rfl rfl NgA) ?_)
  (first | refine GQ (ev_nilCheck rfl) ?_ | refine GQ (ev_nilCheckF (by simp) rfl) ?_)
  refine GQ (ev_fieldAddr rfl) ?_
  refine GE (eff_store rfl rfl rfl UpA) ?_; rintro _ _ ⟨rfl, rfl⟩
  refine GO_nil ?_
  refine G_heap (L' := rcS a s b wh st' (k + min n.toNat r) :: stkS s 65536 l' :: F :: L) (by (repeat first | exact en_refl | apply en_rc (c := c') hA' | (apply en_blk; focus ((repeat' first | exact Pick.here | apply Pick.skip | apply Pick.app); done); focus rfl) | (apply en_own; focus ((repeat' first | exact Pick.here | apply Pick.skip | apply Pick.app); done); focus rfl) | (apply en_pick; focus ((repeat' first | exact Pick.here | apply Pick.skip | apply Pick.app); done)) | apply en_drop | apply en_app) <;> fail) ?_
  have hI2 : RcI b tot L0 l' st' (r - min n.toNat r) := hI'
  refine G_rc fun A2 c2 hA2 hcc hcc2 => ?_
  refine GN ?_
  refine G_region ?_
  refine GQ (ev_move rfl) ?_
  refine GQ (ev_move rfl) ?_
  (first | refine GQ (ev_nilCheck rfl) ?_ | refine GQ (ev_nilCheckF (by simp) rfl) ?_)
  refine GQ (ev_fieldAddr rfl) ?_
  refine GQ (ev_load rfl LdA) ?_
  refine GE (eff_call rfl (Ctr.pick PkA (SLen_k_ctr s l' _))) ?_; rintro _ _ ⟨rfl, rfl⟩
  refine GQ (ev_eql rfl rfl) ?_
  refine GQ (ev_assign rfl) ?_
  refine GQ (ev_assign rfl) ?_
  refine GO_nil ?_
  refine GN ?_
  rw [decide_eq_decide.2 hI2.done]
  refine G_ret (L' := rcP a b wh tot L0 (r - min n.toNat r) (k + min n.toNat r) :: L) rfl (.tmp rfl (.tmp rfl .nil)) ?_ ⟨rfl, rfl⟩
  apply en_pick
  focus ((repeat' first | exact Pick.here | apply Pick.skip | apply Pick.app); done)
  refine en_rcP (s := s) hI2 ?_
  exact (by (repeat first | exact en_refl | apply en_rc (c := c2) hA2 | (apply en_blk; focus ((repeat' first | exact Pick.here | apply Pick.skip | apply Pick.app); done); focus rfl) | (apply en_own; focus ((repeat' first | exact Pick.here | apply Pick.skip | apply Pick.app); done); focus rfl) | (apply en_pick; focus ((repeat' first | exact Pick.here | apply Pick.skip | apply Pick.app); done)) | apply en_drop | apply en_app) <;> fail)
theorem rcDone_ctr (a r k : Nat) (b : Bx) (wh : Bool) (tot : List Int) (L0 L : List HP) : Ctr Tryz.prog 77 #[.pointer (some ⟨a, 0, none⟩)] (rcP a b wh tot L0 r k :: L) fun w L' => w = .bool (decide (r = 0)) ∧ L' = rcP a b wh tot L0 r k :: L := by
  refine Ctr.rcP fun s l st hI => ?_
  refine Ctr.rc fun A c hA hc hc2 => ?_
  refine Ctr_of (fn := Tryz.f77) (n := 13) Tryz.func77 rfl rfl rfl ?_
  intro g F
  refine GN ?_
  refine G_region ?_
  refine GQ (ev_assign rfl) ?_
  refine GO_nil ?_
  refine GN ?_
  refine G_region ?_
  refine GQ (ev_move rfl) ?_
  (first | refine GQ (ev_eqlNil rfl rfl) ?_ | refine GQ (ev_eqlPtr rfl rfl) ?_)
  refine GQ (ev_move rfl) ?_
  refine GO_yes rfl rfl rfl rfl ?_
  refine GQ (ev_move rfl) ?_
  refine GO_yes rfl rfl rfl rfl ?_
  (first | refine GQ (ev_nilCheck rfl) ?_ | refine GQ (ev_nilCheckF (by simp) rfl) ?_)
  refine GO_yes rfl rfl rfl rfl ?_
  refine GQ (ev_fieldAddr rfl) ?_
  refine GO_yes rfl rfl rfl rfl ?_
  refine GQ (ev_load rfl LdA) ?_
  refine GO_yes rfl rfl rfl rfl ?_
  refine GE (eff_call rfl (Ctr.pick PkA (SLen_k_ctr s l _))) ?_; rintro _ _ ⟨rfl, rfl⟩
  refine GO_yes rfl rfl rfl rfl ?_
  refine GQ (ev_eql rfl rfl) ?_
  refine GQ (ev_pick_f rfl rfl rfl) ?_
  refine GQ (ev_assign rfl) ?_
  refine GO_nil ?_
  refine GN ?_
  rw [decide_eq_decide.2 hI.done]
  refine G_ret (L' := rcP a b wh tot L0 r k :: L) rfl (.tmp rfl .nil) ?_ ⟨rfl, rfl⟩
  apply en_pick
  focus ((repeat' first | exact Pick.here | apply Pick.skip | apply Pick.app); done)
  refine en_rcP (s := s) hI ?_
  exact (by (repeat first | exact en_refl | apply en_rc (c := c) hA | (apply en_blk; focus ((repeat' first | exact Pick.here | apply Pick.skip | apply Pick.app); done); focus rfl) | (apply en_own; focus ((repeat' first | exact Pick.here | apply Pick.skip | apply Pick.app); done); focus rfl) | (apply en_pick; focus ((repeat' first | exact Pick.here | apply Pick.skip | apply Pick.app); done)) | apply en_drop | apply en_app) <;> fail)
theorem rcfound_ctr (a k : Nat) (b : Bx) (wh : Bool) (tot : List Int) (L0 L : List HP) (hbig : tot.length ≤ 100000) : Ctr Tryz.prog 57 #[.pointer (some ⟨a, 0, none⟩)] (rcP a b wh tot L0 0 k :: L) fun w L' =>
    ∃ B e, w = .slice B (srt (kp wh tot)).length e ∧ (0 < (srt (kp wh tot)).length → ∃ b, B = some ⟨b, 0, none⟩) ∧ L' = own 3 1 B (srt (kp wh tot)).length e (flat (srt (kp wh tot))) :: rcP a b wh tot L0 0 k :: L := by
  refine Ctr.rcP fun s l st hI => ?_
  obtain ⟨e1, e2⟩ := hI.end_
  refine Ctr.rc fun A c hA hc hc2 => ?_
  subst e2
  have hkl := kp_len wh st
  have hrd : ∀ M : List HP, Rd (own 3 1 A (kp wh st).length c (flat (kp wh st)) :: M) A (kp wh st).length (kp wh st) := fun M => Rc.own (flat_length _) hA
  refine Ctr_of (fn := Tryz.f57) (n := 10) Tryz.func57 rfl rfl rfl ?_
  intro g F
  refine GN ?_
  refine G_region ?_
  refine GQ (ev_assign rfl) ?_
  refine GO_nil ?_
  refine GN ?_
  refine G_region ?_
  refine GQ (ev_move rfl) ?_
  (first | refine GQ (ev_eqlNil rfl rfl) ?_ | refine GQ (ev_eqlPtr rfl rfl) ?_)
  refine GO_nil ?_
  refine GN ?_
  refine G_cond_f rfl rfl ?_
  refine GN ?_
  refine G_region ?_
  refine GQ (ev_move rfl) ?_
  (first | refine GQ (ev_nilCheck rfl) ?_ | refine GQ (ev_nilCheckF (by simp) rfl) ?_)
  refine GQ (ev_fieldAddr rfl) ?_
  refine GQ (ev_load rfl LdA) ?_
  refine GE (eff_call rfl (SortI_ctr A _ c (kp wh st) _ (by repeat' first | exact hrd _ | apply Rd.skip) (by omega) hc)) ?_; rintro _ _ ⟨B, e, rfl, hB, rfl⟩
  refine GQ (ev_assign rfl) ?_
  refine GO_nil ?_
  refine GN ?_
  refine G_ret (L' := own 3 1 B (srt (kp wh st)).length e (flat (srt (kp wh st))) :: rcP a b wh st L0 0 k :: L) rfl (.tmp rfl .nil) ?_ ⟨B, e, rfl, hB, rfl⟩
  apply en_pick
  focus ((repeat' first | exact Pick.here | apply Pick.skip | apply Pick.app); done)
  apply en_pick
  focus ((repeat' first | exact Pick.here | apply Pick.skip | apply Pick.app); done)
  refine en_rcP (s := s) hI ?_
  exact (by (repeat first | exact en_refl | apply en_rc (c := c) hA | (apply en_blk; focus ((repeat' first | exact Pick.here | apply Pick.skip | apply Pick.app); done); focus rfl) | (apply en_own; focus ((repeat' first | exact Pick.here | apply Pick.skip | apply Pick.app); done); focus rfl) | (apply en_pick; focus ((repeat' first | exact Pick.here | apply Pick.skip | apply Pick.app); done)) | apply en_drop | apply en_app) <;> fail)
theorem rcIDs_ctr (a k : Nat) (b : Bx) (wh : Bool) (tot : List Int) (L0 L : List HP) (hbig : tot.length ≤ 100000) : Ctr Tryz.prog 30 #[.pointer (some ⟨a, 0, none⟩)] (rcP a b wh tot L0 0 k :: L) fun w L' =>
    ∃ B e, w = .slice B (srt (kp wh tot)).length e ∧ (0 < (srt (kp wh tot)).length → ∃ b, B = some ⟨b, 0, none⟩) ∧ L' = own 3 1 B (srt (kp wh tot)).length e (flat (srt (kp wh tot))) :: rcP a b wh tot L0 0 k :: L := by
  refine Ctr_of (fn := Tryz.f30) (n := 5) Tryz.func30 rfl rfl rfl ?_
  intro g F
  refine GN ?_
  refine G_region ?_
  refine GQ (ev_assign rfl) ?_
  refine GO_nil ?_
  refine GN ?_
  refine G_region ?_
  refine GQ (ev_move rfl) ?_
  refine GE (eff_call rfl (Ctr.pick PkA (rcfound_ctr a k b wh tot L0 _ hbig))) ?_; rintro _ _ ⟨B, e, rfl, hB, rfl⟩
  refine GQ (ev_assign rfl) ?_
  refine GO_nil ?_
  refine GN ?_
  exact G_ret (L' := own 3 1 B (srt (kp wh tot)).length e (flat (srt (kp wh tot))) :: rcP a b wh tot L0 0 k :: L) rfl (.tmp rfl .nil) EpA ⟨B, e, rfl, hB, rfl⟩
/-- What is left without some numbers. -/
def lessI (l m : List Int) : List Int := m.foldl (fun o x => o.erase x) l
theorem lessI_len (m : List Int) : ∀ l : List Int, (lessI l m).length ≤ l.length := by
  induction m with
  | nil => exact fun l => Nat.le_refl _
  | cons x m ih => exact fun l => Nat.le_trans (ih (l.erase x)) List.length_erase_le
theorem lessI_take {l m : List Int} {k : Nat} {x : Int} (h : m[k]? = some x) : lessI l (m.take (k + 1)) = (lessI l (m.take k)).erase x := by
  unfold lessI
  rw [List.take_add_one, h, List.foldl_append]
  rfl
theorem lessI_sorted (m : List Int) : ∀ {l : List Int}, l.Pairwise (· ≤ ·) → (lessI l m).Pairwise (· ≤ ·) := by
  induction m with
  | nil => exact fun h => h
  | cons x m ih => exact fun h => ih (h.sublist List.erase_sublist)
theorem rcLess_ctr (a k : Nat) (b : Bx) (wh : Bool) (tot : List Int) (L0 L : List HP) (hbig : tot.length ≤ 100000) (D : Option Addr) (m d : Nat) (ds : List Int) (hd : Rd L D m ds) (hm : m ≤ 100000) : Ctr Tryz.prog 31 #[.pointer (some ⟨a, 0, none⟩), .slice D m d] (rcP a b wh tot L0 0 k :: L) fun w L' =>
    ∃ B e, w = .slice B (lessI (srt (kp wh tot)) ds).length e ∧ (0 < (lessI (srt (kp wh tot)) ds).length → ∃ b, B = some ⟨b, 0, none⟩) ∧ L' = own 3 1 B (lessI (srt (kp wh tot)) ds).length e (flat (lessI (srt (kp wh tot)) ds)) :: rcP a b wh tot L0 0 k :: L := by
  have h1 : ds.length = m := hd.len (by decide)
  have hso := srt_sorted (kp wh tot)
  have hsl : (srt (kp wh tot)).length ≤ 100000 := by
    rw [(srt_perm (kp wh tot)).length_eq]
    have := kp_len wh tot; omega
  have hfo := fun M => rcfound_ctr a k b wh tot L0 M hbig
  generalize srt (kp wh tot) = l at *
  refine Ctr_of (fn := Tryz.f31) (n := 24) Tryz.func31 rfl rfl rfl ?_
  intro g F
  refine GN ?_
  refine G_region ?_
  refine GQ (ev_assign rfl) ?_
  refine GO_nil ?_
  refine GN ?_
  refine G_region ?_
  refine GQ (ev_move rfl) ?_
  refine GE (eff_call rfl (Ctr.pick PkA (hfo _))) ?_; rintro _ _ ⟨B, e, rfl, hB, rfl⟩
  refine GQ (ev_assign rfl) ?_
  refine GO_nil ?_
  refine GN ?_
  refine G_region ?_
  refine GQ (ev_move rfl) ?_
  refine GQ (ev_len rfl) ?_
  refine GQ (ev_move rfl) ?_
  refine GO_nil ?_
  refine GN ?_
  refine G_loop (ι := Nat × Option Addr × Nat) (fun z => [(5, .slice z.2.1 (lessI l (ds.take z.1)).length z.2.2), (10, .slice D m d), (11, .int .i64 (m : Nat)), (12, .int .i64 (z.1 : Nat))]) (fun z => own 3 1 z.2.1 (lessI l (ds.take z.1)).length z.2.2 (flat (lessI l (ds.take z.1))) :: rcP a b wh tot L0 0 k :: F :: L) (fun z => z.1 ≤ m ∧ (0 < (lessI l (ds.take z.1)).length → ∃ b, z.2.1 = some ⟨b, 0, none⟩)) (fun z => m - z.1) (0, B, e) ⟨Nat.zero_le _, hB⟩ ⟨rfl, rfl, rfl, rfl, trivial⟩ EpA ?_
  rintro ⟨j, C, f⟩ ⟨f1, f2⟩
  simp only at f1 f2
  dsimp only
  refine GN ?_
  refine G_region ?_
  (first | refine GQ (ev_lssN rfl rfl) ?_ | refine GQ (ev_lss rfl rfl) ?_)
  refine GO_nil ?_
  refine GN ?_
  refine G_cond rfl (fun h4 => ?_) (fun h4 => ?_)
  · obtain ⟨lb, lo, rfl, hx2⟩ := hd.at_ (by omega)
    have g1 : ds[j]? = some ds[j] := List.getElem?_eq_getElem (by omega)
    have y1 := (hx2 _ _ g1).at_ (i := 0) rfl
    have e9 := lessI_take (l := l) g1
    generalize ds[j] = u at *
    have z1 : Ld L ⟨lb, lo + j * 1, none⟩ (.int .i64 u) := y1
    have hs9 := lessI_sorted (ds.take j) hso
    have hl9 := lessI_len (ds.take j) l
    generalize lessI l (ds.take j) = q at *
    have hrq : ∀ M, Rd (own 3 1 C q.length f (flat q) :: M) C q.length q := fun M => Rc.own (flat_length _) f2
    refine GN ?_
    refine G_region ?_
    (first | refine GQ (ev_indexAddrN rfl rfl NgA) ?_ | refine GQ (ev_indexAddr rfl rfl NgA NgA) ?_)
    refine GQ (ev_load rfl LdA) ?_
    refine GQ (ev_assign rfl) ?_
    refine GO_nil ?_
    refine GN ?_
    refine G_region ?_
    refine GQ (ev_move rfl) ?_
    refine GQ (ev_move rfl) ?_
    refine GE (eff_call rfl (CutI_ctr C q.length f q u _ (by repeat' first | exact hrq _ | apply Rd.skip) (by omega) hs9)) ?_; rintro _ _ ⟨A2, c2, rfl, hA2, rfl⟩
    refine GQ (ev_move rfl) ?_
    refine GQ (ev_extract rfl rfl) ?_
    refine GQ (ev_extract rfl rfl) ?_
    refine GQ (ev_assign rfl) ?_
    refine GO_nil ?_
    refine GN ?_
    refine G_region ?_
    (first | refine GQ (ev_addN (q := 1) rfl rfl NgA) ?_ | refine GQ (ev_add rfl rfl NgA) ?_)
    refine GQ (ev_move rfl) ?_
    refine GO_nil ?_
    refine GN ?_
    exact G_round (j + 1, A2, c2) ⟨by simp only; omega, by simp only; rw [e9]; exact hA2⟩ (by simp only; omega) ⟨by simp only; rw [e9]; rfl, rfl, rfl, rfl, trivial⟩ (by dsimp only; rw [e9]; exact EpA)
  · have e0 : ds.take j = ds := List.take_of_length_le (by omega)
    rw [e0] at f2 ⊢
    refine GN ?_
    refine G_region ?_
    refine GQ (ev_move rfl) ?_
    refine GQ (ev_assign rfl) ?_
    refine GO_nil ?_
    refine GN ?_
    exact G_ret (L' := own 3 1 C (lessI l ds).length f (flat (lessI l ds)) :: rcP a b wh tot L0 0 k :: L) rfl (.tmp rfl .nil) EpA ⟨C, f, rfl, f2, rfl⟩
end Go.Proofs.YtkoncepjfgnjlaaGreat
/- Points in several trees: the trees. -/
namespace Go.Proofs.YtkoncepjfgnjlaaGreat
attribute [local irreducible] sat
open Go.RowKit
set_option linter.unusedVariables false
set_option linter.unusedSimpArgs false
set_option maxRecDepth 100000

/-- A place for a tree. -/
@[reducible] def oaddr : Option RTr → Option Addr
  | none => none
  | some x => some ⟨x.t, 0, none⟩
instance encOTr : Enc (Option RTr) := ⟨1, fun o => [.pointer (oaddr o)], fun _ => rfl, fun _ v h => by simp at h; subst h; rfl⟩
def opts : Option RTr → List Pt
  | none => []
  | some x => x.l
def oat (L : List HP) (o : Option RTr) : Prop := ∀ x, o = some x → x.at_ L
theorem oat.skip {X : HP} {L : List HP} {o : Option RTr} (h : oat L o) : oat (X :: L) o := fun x hx => (h x hx).skip
theorem zpoints_ctr (L : List HP) : Ctr Tryz.prog 56 #[.pointer none] L fun v L' => v = .slice none 0 0 ∧ L' = L := by
  refine Ctr_of (fn := Tryz.f56) (n := 9) Tryz.func56 rfl rfl rfl ?_
  intro g F
  refine GN ?_
  refine G_region ?_
  refine GQ (ev_assign rfl) ?_
  refine GO_nil ?_
  refine GN ?_
  refine G_region ?_
  refine GQ (ev_move rfl) ?_
  (first | refine GQ (ev_eqlNil rfl rfl) ?_ | refine GQ (ev_eqlPtr rfl rfl) ?_)
  refine GO_nil ?_
  refine GN ?_
  refine G_cond_t rfl rfl ?_
  refine GN ?_
  refine G_region ?_
  refine GQ (ev_assign rfl) ?_
  refine GO_nil ?_
  refine GN ?_
  refine G_ret rfl (.tmp rfl .nil) EnA ⟨rfl, rfl⟩
theorem oLen_ctr (o : Option RTr) (L : List HP) (h : oat L o) : Ctr Tryz.prog 28 #[.pointer (oaddr o)] L fun v L' => v = .int .i64 ((opts o).length : Nat) ∧ L' = L := by
  cases o with
  | none =>
    refine Ctr_of (fn := Tryz.f28) (n := 6) Tryz.func28 rfl rfl rfl ?_
    intro g F
    refine GN ?_
    refine G_region ?_
    refine GQ (ev_assign rfl) ?_
    refine GO_nil ?_
    refine GN ?_
    refine G_region ?_
    refine GQ (ev_move rfl) ?_
    refine GE (eff_call rfl (zpoints_ctr _)) ?_; rintro _ _ ⟨rfl, rfl⟩
    refine GQ (ev_len rfl) ?_
    refine GQ (ev_assign rfl) ?_
    refine GO_nil ?_
    refine GN ?_
    refine G_ret rfl (.tmp rfl .nil) EnA ⟨rfl, rfl⟩
  | some x => exact tLen_ctr (h x rfl)
/-- The trees that have points. -/
def liv (ts : List (Option RTr)) : List RTr := (ts.filterMap id).filter fun x => decide (0 < x.l.length)
theorem liv_snoc (ts : List (Option RTr)) (o : Option RTr) : liv (ts ++ [o]) = liv ts ++ (match o with | none => [] | some x => if 0 < x.l.length then [x] else []) := by
  unfold liv
  rw [List.filterMap_append, List.filter_append]
  congr 1
  cases o with
  | none => rfl
  | some x =>
    simp only [List.filterMap_cons, id, List.filterMap_nil, List.filter_cons, List.filter_nil, decide_eq_true_eq]
theorem lgtrees_ctr (s b n c : Nat) (A : Option Addr) (most built : Int) (gone : Nat) (ts : List (Option RTr)) (L : List HP) (h : LdN L s 0 5 (lsC A n c b (gone : Nat) most built)) (hr : Rd L A n ts) (ht : ∀ o ∈ ts, oat L o) (hn : n ≤ 100000) :
    Ctr Tryz.prog 50 #[.pointer (some ⟨s, 0, none⟩)] L fun v L' => Made 63 (liv ts) L v L' := by
  have h0 : Ld L ⟨s, 0 + 0, none⟩ (.slice A n c) := h.at_ (i := 0) rfl
  have hlen : ts.length = n := hr.len (by decide)
  refine Ctr_of (fn := Tryz.f50) (n := 26) Tryz.func50 rfl rfl rfl ?_
  intro g F
  refine GN ?_
  refine G_region ?_
  refine GQ (ev_assign rfl) ?_
  refine GO_nil ?_
  refine GN ?_
  refine G_region ?_
  refine GQ (ev_assign rfl) ?_
  refine GO_nil ?_
  refine GN ?_
  refine G_region ?_
  refine GQ (ev_move rfl) ?_
  (first | refine GQ (ev_eqlNil rfl rfl) ?_ | refine GQ (ev_eqlPtr rfl rfl) ?_)
  refine GO_nil ?_
  refine GN ?_
  refine G_cond_f rfl rfl ?_
  refine GN ?_
  refine G_region ?_
  refine GQ (ev_move rfl) ?_
  (first | refine GQ (ev_nilCheck rfl) ?_ | refine GQ (ev_nilCheckF (by simp) rfl) ?_)
  refine GQ (ev_fieldAddr rfl) ?_
  refine GQ (ev_load rfl LdA) ?_
  refine GQ (ev_len rfl) ?_
  refine GQ (ev_move rfl) ?_
  refine GO_nil ?_
  refine GN ?_
  refine G_heap (own.nil_ 63 1) ?_
  refine G_loop (ι := Nat × Option Addr × Nat × List RTr) (fun y => [(0, .pointer (some ⟨s, 0, none⟩)), (3, .slice y.2.1 y.2.2.2.length y.2.2.1), (11, .slice A n c), (12, .int .i64 (n : Nat)), (13, .int .i64 (y.1 : Nat))]) (fun y => own 63 1 y.2.1 y.2.2.2.length y.2.2.1 (flat y.2.2.2) :: F :: L)
    (fun y => y.1 ≤ n ∧ y.2.2.2 = liv (ts.take y.1) ∧ y.2.2.2.length ≤ y.1 ∧ (0 < y.2.2.2.length → ∃ b, y.2.1 = some ⟨b, 0, none⟩) ∧ y.2.2.2.length ≤ y.2.2.1 ∧ y.2.2.1 ≤ maxLen) (fun y => n - y.1) (0, none, 0, []) ⟨Nat.zero_le _, rfl, Nat.le_refl _, (fun h => absurd h (Nat.lt_irrefl 0)), Nat.le_refl _, Nat.zero_le _⟩ ⟨rfl, rfl, rfl, rfl, rfl, trivial⟩ EpA ?_
  rintro ⟨k, B, d, out⟩ ⟨f1, f2, f3, f4, f5, f6⟩
  simp only at f1 f2 f3 f4 f5 f6
  dsimp only
  refine GN ?_
  refine G_region ?_
  (first | refine GQ (ev_lssN rfl rfl) ?_ | refine GQ (ev_lss rfl rfl) ?_)
  refine GO_nil ?_
  refine GN ?_
  refine G_cond rfl (fun c1 => ?_) (fun c1 => ?_)
  · obtain ⟨lb, lo, rfl, hx⟩ := hr.at_ (by omega)
    have g1 : ts[k]? = some ts[k] := List.getElem?_eq_getElem (by omega)
    have y1 := (hx _ _ g1).at_ (i := 0) rfl
    have s1 : ts.take (k + 1) = ts.take k ++ [ts[k]] := List.take_succ_eq_append_getElem (by omega)
    have o1 := ht ts[k] (List.getElem_mem _)
    have s2 := liv_snoc (ts.take k) ts[k]
    rw [← s1, ← f2] at s2
    generalize ts[k] = o at *
    have z1 : Ld L ⟨lb, lo + k * 1, none⟩ (.pointer (oaddr o)) := y1
    have hL := fun M hM => oLen_ctr o M hM
    refine GN ?_
    refine G_region ?_
    (first | refine GQ (ev_indexAddrN rfl rfl NgA) ?_ | refine GQ (ev_indexAddr rfl rfl NgA NgA) ?_)
    refine GQ (ev_load rfl LdA) ?_
    refine GQ (ev_assign rfl) ?_
    refine GO_nil ?_
    refine GN ?_
    refine G_region ?_
    refine GQ (ev_move rfl) ?_
    refine GE (eff_call rfl (hL _ (by repeat' first | exact o1 | apply oat.skip))) ?_; rintro _ _ ⟨rfl, rfl⟩
    refine GQ (ev_gtr rfl rfl) ?_
    refine GO_nil ?_
    by_cases hp : 0 < (opts o).length
    · cases o with
      | none => exact absurd hp (Nat.lt_irrefl 0)
      | some x =>
        have hp : 0 < x.l.length := hp
        have s2 : liv (ts.take (k + 1)) = out ++ [x] := by rw [s2]; simp [hp]
        refine GN ?_
        refine G_cond_t rfl (decide_eq_true (by show (0 : Int) < (x.l.length : Nat); omega)) ?_
        refine GN ?_
        refine G_region ?_
        refine GQ (ev_move rfl) ?_
        refine GQ (ev_move rfl) ?_
        refine GE (eff_buildSlice1 (by rfl) rfl rfl) ?_; rintro _ _ ⟨b22, rfl, rfl⟩
        refine GE (eff_append rfl rfl PkA (by repeat' first | exact Rc.blk rfl | assumption | apply Rc.skip) (one_all rfl) (by rfl) (by decide) NgA NgA) ?_; rintro _ _ ⟨A23, c23, rfl, hc23, hm23, hn23, rfl⟩
        refine GQ (ev_assign rfl) ?_
        refine GO_nil ?_
        refine GN ?_
        refine G_region ?_
        (first | refine GQ (ev_addN (q := 1) rfl rfl NgA) ?_ | refine GQ (ev_add rfl rfl NgA) ?_)
        refine GQ (ev_move rfl) ?_
        refine GO_nil ?_
        refine GN ?_
        refine G_round (k + 1, A23, c23, out ++ [x]) ⟨by show k + 1 ≤ n; omega, s2.symm, by simp; omega, by simpa using hn23, by simpa using hc23, hm23⟩ (by show n - (k + 1) < n - k; omega) ⟨rfl, by simp only [List.length_append, List.length_singleton]; rfl, rfl, rfl, rfl, trivial⟩ ?_
        simp only [List.length_append, List.length_singleton]
        rw [← flat_snoc]
        exact EpA
    · have s3 : liv (ts.take (k + 1)) = out := by
        rw [s2]
        cases o with
        | none => simp
        | some x => simp only [opts] at hp; simp [hp]
      refine GN ?_
      refine G_cond_f rfl (decide_eq_false (by omega)) ?_
      refine GN ?_
      refine G_region ?_
      (first | refine GQ (ev_addN (q := 1) rfl rfl NgA) ?_ | refine GQ (ev_add rfl rfl NgA) ?_)
      refine GQ (ev_move rfl) ?_
      refine GO_nil ?_
      refine GN ?_
      exact G_round (k + 1, B, d, out) ⟨by show k + 1 ≤ n; omega, s3.symm, by simp only; omega, f4, f5, f6⟩ (by show n - (k + 1) < n - k; omega) ⟨rfl, rfl, rfl, rfl, rfl, trivial⟩ EpA
  · have e : k = n := by omega
    subst e
    rw [← hlen, List.take_length] at f2
    rw [← f2]
    refine GN ?_
    refine G_region ?_
    refine GQ (ev_move rfl) ?_
    refine GQ (ev_assign rfl) ?_
    refine GO_nil ?_
    refine GN ?_
    exact G_ret (L' := own 63 1 B out.length d (flat out) :: L) rfl (.tmp rfl .nil) EpA ⟨B, d, rfl, f4, rfl⟩
end Go.Proofs.YtkoncepjfgnjlaaGreat
/- Points in several trees: Count, report. -/
namespace Go.Proofs.YtkoncepjfgnjlaaGreat
attribute [local irreducible] sat
open Go.RowKit
set_option linter.unusedVariables false
set_option linter.unusedSimpArgs false
set_option maxRecDepth 100000

/-- How many lie in a box. -/
def cntB (w : Bx) (xs : List RTr) : Nat := (xs.map fun x => (idsB w x.l).length).sum
theorem cntB_take {w : Bx} {xs : List RTr} {k : Nat} (h : k < xs.length) : cntB w (xs.take (k + 1)) = cntB w (xs.take k) + (idsB w xs[k].l).length := by
  unfold cntB
  rw [List.take_succ_eq_append_getElem h]
  simp only [List.map_append, List.map_cons, List.map_nil, List.sum_append, List.sum_cons, List.sum_nil, Nat.add_zero]
theorem liv_at {ts : List (Option RTr)} {L : List HP} (h : ∀ o ∈ ts, oat L o) : ∀ x ∈ liv ts, x.at_ L := fun x hx => by
  have := (List.mem_filter.1 hx).1
  obtain ⟨o, ho, e⟩ := List.mem_filterMap.1 this
  exact h o ho x e
theorem lgCount_ctr (s b n c : Nat) (A : Option Addr) (most built : Int) (gone : Nat) (w : Bx) (ts : List (Option RTr)) (M : List (Pt × Bool)) (L : List HP) (h : LdN L s 0 5 (lsC A n c b (gone : Nat) most built)) (hr : Rd L A n ts) (ht : ∀ o ∈ ts, oat L o) (hn : n ≤ 1000) (hM : M.length ≤ 100000) (hc : ∀ o ∈ ts, (opts o).length ≤ 100000) :
    Ctr Tryz.prog 24 #[.pointer (some ⟨s, 0, none⟩), w.v] (mpH b M :: L) fun v L' => v = .int .i64 ((cntB w (liv ts) : Nat) - ((srt (ded w M)).length : Nat)) ∧ L' = mpH b M :: L := by
  have hlen : ts.length = n := hr.len (by decide)
  have hll : (liv ts).length ≤ 1000 := by
    unfold liv
    have h1 := List.length_filter_le (fun x : RTr => decide (0 < x.l.length)) (ts.filterMap id)
    have h2 := List.length_filterMap_le id ts
    omega
  have hat := liv_at ht
  have hcl : ∀ x ∈ liv ts, x.l.length ≤ 100000 := fun x hx => by
    have := (List.mem_filter.1 hx).1
    obtain ⟨o, ho, e⟩ := List.mem_filterMap.1 this
    have e : o = some x := e
    have := hc o ho
    rw [e] at this
    exact this
  have hid : ∀ x ∈ liv ts, (idsB w x.l).length ≤ 100000 := fun x hx => by
    have h1 : (idsB w x.l).length ≤ x.l.length := by unfold idsB; rw [srt, List.length_mergeSort, List.length_map]; exact List.length_filter_le ..
    have := hcl x hx
    omega
  have hdd : (srt (ded w M)).length ≤ 100000 := by
    rw [srt, List.length_mergeSort]; unfold ded; rw [List.length_map]
    exact Nat.le_trans (List.length_filter_le ..) hM
  have htr := fun X h1 h2 h3 => lgtrees_ctr s b n c A most built gone ts X h1 h2 h3 (by omega)
  have hlo := fun X h1 => lgLost_ctr s b n c A most built gone w M X h1 hM
  generalize liv ts = xs at *
  generalize srt (ded w M) = dd at *
  refine Ctr_of (fn := Tryz.f24) (n := 27) Tryz.func24 rfl rfl rfl ?_
  intro g F
  refine GN ?_
  refine G_region ?_
  refine GE (eff_box rfl) ?_; rintro _ _ ⟨b3, rfl, rfl⟩
  refine GQ (ev_assign rfl) ?_
  refine GO_nil ?_
  refine GN ?_
  refine G_region ?_
  refine GQ (ev_assign rfl) ?_
  refine GO_nil ?_
  refine GN ?_
  refine G_region ?_
  refine GQ (ev_move rfl) ?_
  refine GE (eff_call rfl (htr _ (by repeat' first | exact h | apply LdN.skip) (by repeat' first | exact hr | apply Rd.skip) (fun o ho => by repeat' first | exact ht o ho | apply oat.skip))) ?_; rintro _ _ ⟨A2, c2, rfl, hA2, rfl⟩
  refine GQ (ev_len rfl) ?_
  refine GQ (ev_move rfl) ?_
  refine GO_nil ?_
  refine GN ?_
  refine G_heap (L' := mpH b M :: own 63 1 A2 xs.length c2 (flat xs) :: blk b3 35 [.int .i64 w.x1, .int .i64 w.x2, .int .i64 w.y1, .int .i64 w.y2] :: F :: L) EpA ?_
  have hnx : ∀ X, Rd (own 63 1 A2 xs.length c2 (flat xs) :: X) A2 xs.length xs := fun X => Rc.own (flat_length _) hA2
  refine G_loop (ι := Nat) (fun k => [(0, .pointer (some ⟨s, 0, none⟩)), (3, .pointer (some ⟨b3, 0, none⟩)), (5, .int .i64 (cntB w (xs.take k) : Nat)), (9, .slice A2 xs.length c2), (10, .int .i64 (xs.length : Nat)), (11, .int .i64 (k : Nat))]) (fun _ => mpH b M :: own 63 1 A2 xs.length c2 (flat xs) :: blk b3 35 [.int .i64 w.x1, .int .i64 w.x2, .int .i64 w.y1, .int .i64 w.y2] :: F :: L) (fun k => k ≤ xs.length ∧ cntB w (xs.take k) ≤ k * 100000) (fun k => xs.length - k) 0 ⟨Nat.zero_le _, Nat.zero_le _⟩ ⟨rfl, rfl, rfl, rfl, rfl, rfl, trivial⟩ EnA ?_
  rintro k ⟨f1, f2⟩
  refine GN ?_
  refine G_region ?_
  (first | refine GQ (ev_lssN rfl rfl) ?_ | refine GQ (ev_lss rfl rfl) ?_)
  refine GO_nil ?_
  refine GN ?_
  refine G_cond rfl (fun c1 => ?_) (fun c1 => ?_)
  · obtain ⟨lb, lo, rfl, hx⟩ := (hnx []).at_ (by omega)
    have g1 : xs[k]? = some xs[k] := List.getElem?_eq_getElem (by omega)
    obtain ⟨ab, e9⟩ := hA2 (by omega)
    cases e9
    have z1 : ∀ X, Ld (own 63 1 (some ⟨lb, 0, none⟩) xs.length c2 (flat xs) :: X) ⟨lb, 0 + k * 1, none⟩ (.pointer (some ⟨xs[k].t, 0, none⟩)) := fun X => by
      obtain ⟨_, _, e9, hx⟩ := (hnx X).at_ (by omega)
      cases e9
      exact (hx _ _ g1).at_ (i := 0) rfl
    have s1 := cntB_take (w := w) (xs := xs) (k := k) (by omega)
    have m1 := hat xs[k] (List.getElem_mem _)
    have m2 := hcl xs[k] (List.getElem_mem _)
    have m3 := hid xs[k] (List.getElem_mem _)
    have hcn : ∀ X, RTr.at_ X xs[k] → _ := fun X hX => tCount_ctr hX w m2
    have hsk : RTr.at_ (mpH b M :: own 63 1 (some ⟨lb, 0, none⟩) xs.length c2 (flat xs) :: blk b3 35 [.int .i64 w.x1, .int .i64 w.x2, .int .i64 w.y1, .int .i64 w.y2] :: F :: L) xs[k] := TR.skip (TR.skip (TR.skip (TR.skip m1)))
    generalize xs[k] = x at *
    refine GN ?_
    refine G_region ?_
    refine GQ (ev_indexAddrN rfl rfl (by omega)) ?_
    refine GQ (ev_load rfl (by repeat' first | exact z1 _ | apply Ld.skip)) ?_
    refine GQ (ev_assign rfl) ?_
    refine GO_nil ?_
    refine GN ?_
    refine G_region ?_
    refine GQ (ev_move rfl) ?_
    refine GQ (ev_move rfl) ?_
    refine GQ (ev_loadN rfl LnA) ?_
    refine GE (eff_call rfl (hcn _ hsk)) ?_; rintro _ _ ⟨rfl, rfl⟩
    (first | refine GQ (ev_addN rfl rfl NgA) ?_ | refine GQ (ev_add rfl rfl NgA) ?_)
    refine GQ (ev_assign rfl) ?_
    refine GO_nil ?_
    refine GN ?_
    refine G_region ?_
    (first | refine GQ (ev_addN (q := 1) rfl rfl NgA) ?_ | refine GQ (ev_add rfl rfl NgA) ?_)
    refine GQ (ev_move rfl) ?_
    refine GO_nil ?_
    refine GN ?_
    refine G_round (k + 1) ⟨by omega, by rw [s1]; omega⟩ (by omega) ⟨rfl, rfl, by rw [s1]; rfl, rfl, rfl, rfl, trivial⟩ EnA
  · have ek : xs.take k = xs := List.take_of_length_le (by omega)
    rw [ek] at f2 ⊢
    refine GN ?_
    refine G_region ?_
    refine GQ (ev_move rfl) ?_
    refine GQ (ev_move rfl) ?_
    refine GQ (ev_loadN rfl LnA) ?_
    refine GE (eff_call rfl (Ctr.pick PkA (hlo _ (by repeat' first | exact h | apply LdN.skip)))) ?_; rintro _ _ ⟨A9, c9, rfl, hA9, rfl⟩
    refine GQ (ev_len rfl) ?_
    (first | refine GQ (ev_subN rfl rfl NgA) ?_ | refine GQ (ev_sub rfl rfl NgA) ?_)
    refine GQ (ev_assign rfl) ?_
    refine GO_nil ?_
    refine GN ?_
    exact G_ret (L' := mpH b M :: L) rfl (.tmp rfl .nil) EpA ⟨rfl, rfl⟩
end Go.Proofs.YtkoncepjfgnjlaaGreat
/- Points in several trees: report. -/
namespace Go.Proofs.YtkoncepjfgnjlaaGreat
attribute [local irreducible] sat
open Go.RowKit
set_option linter.unusedVariables false
set_option linter.unusedSimpArgs false
set_option maxRecDepth 100000

theorem lgreport_ctr (s b n c : Nat) (A : Option Addr) (most built : Int) (gone : Nat) (w : Bx) (ts : List (Option RTr)) (M : List (Pt × Bool)) (L : List HP) (h : LdN L s 0 5 (lsC A n c b (gone : Nat) most built)) (hr : Rd L A n ts) (ht : ∀ o ∈ ts, oat L o) (hn : n ≤ 1000) (hM : M.length ≤ 100000) (hc : ∀ x ∈ liv ts, x.l.length ≤ 1000) (hs : lkR w (begs w (liv ts)) ≤ 60000) (hb : (fndR w (begs w (liv ts))).length ≤ 100000) :
    Ctr Tryz.prog 49 #[.pointer (some ⟨s, 0, none⟩), w.v] (mpH b M :: L) fun v L' => Made 3 (lessI (srt (kp true (fndR w (begs w (liv ts))))) (srt (ded w M))) (mpH b M :: L) v L' := by
  have hlen : ts.length = n := hr.len (by decide)
  have hll : (liv ts).length ≤ 1000 := by
    unfold liv
    have h1 := List.length_filter_le (fun x : RTr => decide (0 < x.l.length)) (ts.filterMap id)
    have h2 := List.length_filterMap_le id ts
    omega
  have hat := liv_at ht
  have hdd : (srt (ded w M)).length ≤ 100000 := by
    rw [srt, List.length_mergeSort]; unfold ded; rw [List.length_map]
    exact Nat.le_trans (List.length_filter_le ..) hM
  have htr := fun X h1 h2 h3 => lgtrees_ctr s b n c A most built gone ts X h1 h2 h3 (by omega)
  have hlo := fun X h1 => lgLost_ctr s b n c A most built gone w M X h1 hM
  have hrep := fun A2 c2 X hX h2 => rcReport_ctr w A2 (liv ts).length c2 (liv ts) X L hX h2 hll hat hc hs
  generalize liv ts = xs at *
  generalize srt (ded w M) = dd at *
  generalize fndR w (begs w xs) = tot at *
  generalize lkR w (begs w xs) = r at *
  refine Ctr_of (fn := Tryz.f49) (n := 20) Tryz.func49 rfl rfl rfl ?_
  intro g F
  refine GN ?_
  refine G_region ?_
  refine GE (eff_box rfl) ?_; rintro _ _ ⟨b3, rfl, rfl⟩
  refine GQ (ev_assign rfl) ?_
  refine GO_nil ?_
  refine GN ?_
  refine G_draw (.q 0 (.q 1 (.e 2 (.e 3 (.q 4 .nil))))) (by kernel_rfl) (by kernel_rfl) ?_
  refine RQ rfl (ev_loadN rfl LnA) ?_
  refine RM rfl (ev_move rfl) ?_
  refine RS_e (RE_eff rfl rfl rfl (eff_call rfl (htr _ (by repeat' first | exact h | apply LdN.skip) (by repeat' first | exact hr | apply Rd.skip) (fun o ho => by repeat' first | exact ht o ho | apply oat.skip))) ?_); rintro _ _ ⟨A2, c2, rfl, hA2, rfl⟩; refine ⟨_, fun _ s => s, ExA, ?_⟩
  refine RS_e (RE_eff rfl rfl rfl (eff_call rfl (hrep _ _ _ (by (repeat first | exact en_refl | apply en_drop | apply en_app) <;> fail) (by repeat' first | exact Rc.own (flat_length _) hA2 | apply Rd.skip))) ?_); rintro _ _ ⟨a, rfl, rfl⟩; refine ⟨_, fun _ s => s, ExA, ?_⟩
  refine RM rfl (ev_assign rfl) ?_
  refine RS_nil ?_
  all_goals
    (repeat first | refine G_seq ?_ | refine G_skip ?_ | refine G_endblk ?_)
    refine G_cut (ι := Nat) (fun _ => [(0, .pointer (some ⟨s, 0, none⟩)), (3, .pointer (some ⟨b3, 0, none⟩)), (5, .pointer (some ⟨a, 0, none⟩))]) (fun k => rcP a w true tot L 0 k :: mpH b M :: blk b3 35 [.int .i64 w.x1, .int .i64 w.x2, .int .i64 w.y1, .int .i64 w.y2] :: F :: L) (fun k => k ≤ 60000) ?_ ?_
    · refine GN ?_
      refine G_loop (ι := Nat × Nat) (fun _ => [(0, .pointer (some ⟨s, 0, none⟩)), (3, .pointer (some ⟨b3, 0, none⟩)), (5, .pointer (some ⟨a, 0, none⟩))]) (fun y => rcP a w true tot L y.1 y.2 :: mpH b M :: blk b3 35 [.int .i64 w.x1, .int .i64 w.x2, .int .i64 w.y1, .int .i64 w.y2] :: F :: L) (fun y => y.1 + y.2 ≤ 60000) (fun y => y.1) (r, 0) (by simpa using hs) ⟨rfl, rfl, rfl, trivial⟩ EpA ?_
      rintro ⟨r1, k⟩ f1
      simp only at f1
      dsimp only
      refine GN ?_
      refine G_region ?_
      refine GQ (ev_move rfl) ?_
      refine GE (eff_call rfl (rcDone_ctr a r1 k w true tot L _)) ?_; rintro _ _ ⟨rfl, rfl⟩
      refine GQ (ev_not rfl) ?_
      refine GO_nil ?_
      by_cases hz : r1 = 0
      · subst hz
        refine GN ?_
        refine G_cond_f rfl rfl ?_
        refine GN ?_
        exact G_inv k (by omega) ⟨rfl, rfl, rfl, trivial⟩ EpA
      · have hst := fun X hX => rcStep_ctr a r1 k w true tot L X 65536 hX (by omega) (by omega)
        rw [show min (Int.toNat 65536) r1 = r1 from by have : Int.toNat 65536 = 65536 := rfl; omega, Nat.sub_self] at hst
        refine GN ?_
        refine G_cond_t rfl (by simp [hz]) ?_
        refine GN ?_
        refine G_region ?_
        refine GQ (ev_move rfl) ?_
        refine GE (eff_call rfl (hst _ (by (repeat first | exact en_refl | apply en_drop | apply en_app) <;> fail))) ?_; rintro _ _ ⟨rfl, rfl⟩
        refine GO_nil ?_
        refine GN ?_
        exact G_round (0, k + r1) (by simp only; omega) (by simp only; omega) ⟨rfl, rfl, rfl, trivial⟩ EpA
    · rintro k f1
      have hls := fun X D d hd => rcLess_ctr a k w true tot L X hb D dd.length d dd hd hdd
      refine GN ?_
      refine G_region ?_
      refine GQ (ev_move rfl) ?_
      refine GQ (ev_move rfl) ?_
      refine GQ (ev_loadN rfl LnA) ?_
      refine GE (eff_call rfl (Ctr.pick PkA (hlo _ (by repeat' first | exact h | apply LdN.skip)))) ?_; rintro _ _ ⟨A9, c9, rfl, hA9, rfl⟩
      refine GE (eff_call rfl (Ctr.pick PkA (hls _ A9 c9 (by repeat' first | exact Rc.own (flat_length _) hA9 | apply Rd.skip)))) ?_; rintro _ _ ⟨B, e, rfl, hB, rfl⟩
      refine GQ (ev_assign rfl) ?_
      refine GO_nil ?_
      refine GN ?_
      exact G_ret (L' := own 3 1 B _ e (flat (lessI (srt (kp true tot)) dd)) :: mpH b M :: L) rfl (.tmp rfl .nil) EpA ⟨B, e, rfl, hB, rfl⟩
end Go.Proofs.YtkoncepjfgnjlaaGreat
