/- The law CascadeLeads' walk. -/
import Derived.Test.YtcdafmmfcjbodaaCas8
namespace Go.Proofs.Ytcdafmmfcjbodaa
set_option linter.unusedVariables false
set_option linter.unusedSimpArgs false
set_option maxRecDepth 100000

theorem run_eql_ent (a b c d e : Int) (w : World) : (binOp .eql 67 (.agg #[.int .i64 a, .int .i64 b, .int .i64 c, .int .i64 d, .int .i64 e]) (.agg #[.int .i64 a, .int .i64 b, .int .i64 c, .int .i64 d, .int .i64 e])).run Try.prog w = .ok (.bool true) w := by
  go_simp
theorem guard_ent (op : BinOp) (x y : Operand) (xs ys : Array Value) (w : World) : (eqGuard op 67 x y (.agg xs) (.agg ys)).run Try.prog w = .ok () w := run_eqGuard_agg w _ _ _ _ _ _ (by kernel_rfl)
theorem ev_eql_ent {L : List HP} {σ : Env} {d : Option Nat} {ty T' : TypeId} {pos : String} {aft : Array Edge} {gd : Option (Nat × Bool)} {x y : Operand} {a b c d' e : Int} (hx : ev σ x = some (.agg #[.int .i64 a, .int .i64 b, .int .i64 c, .int .i64 d', .int .i64 e])) (hy : ev σ y = some (.agg #[.int .i64 a, .int .i64 b, .int .i64 c, .int .i64 d', .int .i64 e])) :
    Ev Try.prog L σ ⟨d, .binOp .eql 67 x y T', ty, pos, aft, gd⟩ (.bool true) := bin_run' _ _ _ _ (fun w => guard_ent _ _ _ _ _ w) hx hy fun w => run_eql_ent _ _ _ _ _ w
theorem At_ctr (p : Option Addr) (t : Arr) (k : Nat) (e : Ent) (L : List HP) (h : ArrIn L p t) (hm : t.es.length ≤ 100000) (hg : t.es[k]? = some e) : Ctr Try.prog 38 #[.pointer p, .int .i64 (k : Nat)] L fun v L' =>
    v = .tuple #[.agg #[.int .i64 e.p.id, .int .i64 e.p.x, .int .i64 e.p.y, .int .i64 e.low, .int .i64 e.high], .bool true] ∧ L' = L := by
  refine Ctr_of (fn := Try.f38) (n := 11) Try.func38 rfl rfl rfl ?_
  intro g F
  (repeat first | refine G_seq ?_ | refine G_skip ?_ | refine G_endblk ?_ | refine G_block ?_ | refine G_exit rfl ?_)
  refine G_region ?_
  refine GO_eff rfl rfl eff_alloc ?_; rintro _ _ ⟨b4, rfl, rfl⟩
  refine GO_q rfl rfl (ev_assign rfl) ?_
  refine GO_nil ?_
  (repeat first | refine G_seq ?_ | refine G_skip ?_ | refine G_endblk ?_ | refine G_block ?_ | refine G_exit rfl ?_)
  refine G_region ?_
  refine GO_q rfl rfl (ev_move rfl) ?_
  refine GO_q rfl rfl (ev_move rfl) ?_
  refine GO_eff rfl rfl (eff_call rfl (at_ctr p t (k : Nat) _ (by repeat' first | assumption | apply ArrIn.skip) (by unfold maxLen; omega))) ?_; rintro _ _ ⟨hv, _, rfl⟩; have hv1 := hv e (by omega) (by simpa using hg); subst hv1
  refine GO_q rfl rfl (ev_extract rfl rfl) ?_
  refine GO_q rfl rfl (ev_extract rfl rfl) ?_
  refine GO_eff rfl rfl (eff_storeN rfl rfl rfl rfl (by repeat' first | exact Upd.here rfl | apply Upd.skip)) ?_; rintro _ _ ⟨rfl, rfl⟩
  refine GO_q rfl rfl (ev_assign rfl) ?_
  refine GO_nil ?_
  (repeat first | refine G_seq ?_ | refine G_skip ?_ | refine G_endblk ?_ | refine G_block ?_ | refine G_exit rfl ?_)
  refine G_ret rfl (.cell rfl (loadN_run (by repeat' first | exact LdN.blk rfl | assumption | apply LdN.skip)) (.tmp rfl .nil)) (by repeat first | exact fun _ s => s | apply en_keep | apply en_drop | apply en_app) ⟨rfl, rfl⟩
theorem Len_ctr (p : Option Addr) (t : Arr) (L : List HP) (h : ArrIn L p t) : Ctr Try.prog 34 #[.pointer p] L fun v L' => v = .int .i64 (t.es.length : Nat) ∧ L' = L := by
  refine Ctr_of (fn := Try.f34) (n := 5) Try.func34 rfl rfl rfl ?_
  intro g F
  (repeat first | refine G_seq ?_ | refine G_skip ?_ | refine G_endblk ?_ | refine G_block ?_ | refine G_exit rfl ?_)
  refine G_region ?_
  refine GO_q rfl rfl (ev_assign rfl) ?_
  refine GO_nil ?_
  (repeat first | refine G_seq ?_ | refine G_skip ?_ | refine G_endblk ?_ | refine G_block ?_ | refine G_exit rfl ?_)
  refine G_region ?_
  refine GO_q rfl rfl (ev_move rfl) ?_
  refine GO_eff rfl rfl (eff_call rfl (size_ctr p t _ (by repeat' first | assumption | apply ArrIn.skip))) ?_; rintro _ _ ⟨rfl, rfl⟩
  refine GO_q rfl rfl (ev_assign rfl) ?_
  refine GO_nil ?_
  (repeat first | refine G_seq ?_ | refine G_skip ?_ | refine G_endblk ?_ | refine G_block ?_ | refine G_exit rfl ?_)
  refine G_ret rfl (.tmp rfl .nil) (by repeat first | exact fun _ s => s | apply en_keep | apply en_drop | apply en_app) ⟨rfl, rfl⟩
theorem Check_ctr (a : Addr) (L : List HP) (hs : ∀ X, Ctr Try.prog 62 #[.pointer (some a)] (X :: L) fun v M => v = .bool true ∧ M = X :: L) : Ctr Try.prog 39 #[.pointer (some a)] L fun v L' => v = .bool true ∧ L' = L := by
  refine Ctr_of (fn := Try.f39) (n := 9) Try.func39 rfl rfl rfl ?_
  intro g F
  (repeat first | refine G_seq ?_ | refine G_skip ?_ | refine G_endblk ?_ | refine G_block ?_ | refine G_exit rfl ?_)
  refine G_region ?_
  refine GO_q rfl rfl (ev_assign rfl) ?_
  refine GO_nil ?_
  (repeat first | refine G_seq ?_ | refine G_skip ?_ | refine G_endblk ?_ | refine G_block ?_ | refine G_exit rfl ?_)
  refine G_region ?_
  refine GO_q rfl rfl (ev_move rfl) ?_
  (first | refine GO_q rfl rfl (ev_neqNil rfl rfl) ?_ | refine GO_q rfl rfl (ev_neqPtr rfl rfl) ?_)
  refine GO_q rfl rfl (ev_move rfl) ?_
  refine GO_yes rfl rfl rfl rfl ?_
  refine GO_q rfl rfl (ev_move rfl) ?_
  refine GO_yes rfl rfl rfl rfl ?_
  refine GO_eff rfl rfl (eff_call rfl (hs F)) ?_; rintro _ _ ⟨rfl, rfl⟩
  refine GO_q rfl rfl (ev_pick_t rfl rfl rfl) ?_
  refine GO_q rfl rfl (ev_assign rfl) ?_
  refine GO_nil ?_
  (repeat first | refine G_seq ?_ | refine G_skip ?_ | refine G_endblk ?_ | refine G_block ?_ | refine G_exit rfl ?_)
  refine G_ret rfl (.tmp rfl .nil) (by repeat first | exact fun _ s => s | apply en_keep | apply en_drop | apply en_app) ⟨rfl, rfl⟩
def pa : Pt := ⟨1, 0, 5⟩
def pb : Pt := ⟨2, 3, 2⟩
theorem live_es : mrg 0 0 [pa] [pb] = [⟨pb, 0, 0⟩, ⟨pa, 0, 1⟩] := by
  have h : ¬ up pa pb ≤ 0 := by decide
  rw [mrg, if_neg h, mrg, mrg]; rfl
theorem live_join : join (leaf pa) (leaf pb) = .node [⟨pb, 0, 0⟩, ⟨pa, 0, 1⟩] (leaf pa) (leaf pb) := by
  show Arr.node (mrg 0 0 [pa] [pb]) (leaf pa) (leaf pb) = _
  rw [live_es]
theorem leaf_sound (p : Pt) (h1 : (0 : Int) ≤ 0) (L : List HP) (q : Option Addr) (h : ArrIn L q (leaf p)) : Ctr Try.prog 62 #[.pointer q] L fun v L' => v = .bool true ∧ L' = L :=
  sound_leaf q [⟨p, 0, 0⟩] L h (by simp) (fun k e f h1 h2 => by simp at h2) (fun k e h1 => by
    cases k with
    | zero => simp at h1; subst h1; simp
    | succ k => simp at h1)
theorem live_sound (L : List HP) (q : Option Addr) (h : ArrIn L q (join (leaf pa) (leaf pb))) : Ctr Try.prog 62 #[.pointer q] L fun v L' => v = .bool true ∧ L' = L := by
  rw [live_join] at h
  refine sound_join q _ _ _ L h (by simp [leaf]) (by simp) (by simp [leaf, Arr.es]) (by simp [leaf, Arr.es]) (fun k e f h1 h2 => ?_) (fun k e h1 => ?_) rfl (leaf_sound pa (Int.le_refl 0)) (leaf_sound pb (Int.le_refl 0))
  · match k with
    | 0 => simp at h1 h2; subst h1 h2; decide
    | k + 1 => simp at h2
  · match k with
    | 0 => simp at h1; subst h1; decide
    | 1 => simp at h1; subst h1; decide
    | k + 2 => simp at h1
theorem lives_ctr (L : List HP) : Ctr Try.prog 17 #[] L fun v L' => v = .bool true ∧ L' = L := by
  refine Ctr_of (fn := Try.f17) (n := 30) Try.func17 rfl rfl rfl ?_
  intro g F
  (repeat first | refine G_seq ?_ | refine G_skip ?_ | refine G_endblk ?_ | refine G_block ?_ | refine G_exit rfl ?_)
  refine G_region ?_
  refine GO_q rfl rfl (ev_assign rfl) ?_
  refine GO_nil ?_
  (repeat first | refine G_seq ?_ | refine G_skip ?_ | refine G_endblk ?_ | refine G_block ?_ | refine G_exit rfl ?_)
  refine G_region ?_
  refine GO_q rfl rfl (ev_build rfl rfl) ?_
  refine GO_eff rfl rfl (eff_call rfl (Ctr.frame [F] (Leaf_ctr pa L) (fun _ s => s))) ?_; rintro _ _ ⟨L1, ⟨qa, N1, rfl, rfl, ha⟩, rfl⟩
  refine GO_q rfl rfl (ev_build rfl rfl) ?_
  refine GO_eff rfl rfl (eff_call rfl (Ctr.frame [F] (Leaf_ctr pb (N1 ++ L)) (fun _ s => s))) ?_; rintro _ _ ⟨L2, ⟨qb, N2, rfl, rfl, hb⟩, rfl⟩
  refine GO_eff rfl rfl (eff_call rfl (Ctr.frame [F] (Join_ctr qa qb (leaf pa) (leaf pb) (N2 ++ (N1 ++ L)) ha.app hb (by simp [leaf, Arr.es]) (by simp [leaf, Arr.es])) (fun _ s => s))) ?_; rintro _ _ ⟨L3, ⟨qj, N3, rfl, rfl, hj⟩, rfl⟩
  refine GO_q rfl rfl (ev_assign rfl) ?_
  refine GO_nil ?_
  have hj2 := hj
  rw [live_join] at hj2
  obtain ⟨b, A, c, pl, ph, rfl, _⟩ := hj2
  rw [live_join] at hj
  have hML : ∀ h, sat (N3 ++ (N2 ++ (N1 ++ L))) h → sat L h := en_app (en_app (en_app en_refl))
  clear ha hb
  generalize N3 ++ (N2 ++ (N1 ++ L)) = M at *
  have hlen : (Arr.node [⟨pb, 0, 0⟩, ⟨pa, 0, 1⟩] (leaf pa) (leaf pb)).es.length ≤ 100000 := by simp [Arr.es]
  (repeat first | refine G_seq ?_ | refine G_skip ?_ | refine G_endblk ?_ | refine G_block ?_ | refine G_exit rfl ?_)
  refine G_region ?_
  refine GO_q rfl rfl (ev_move rfl) ?_
  refine GO_eff rfl rfl (eff_call rfl (At_ctr (some ⟨b, 0, none⟩) (.node [⟨pb, 0, 0⟩, ⟨pa, 0, 1⟩] (leaf pa) (leaf pb)) 1 ⟨pa, 0, 1⟩ _ (by repeat' first | assumption | apply ArrIn.skip) hlen rfl)) ?_; rintro _ _ ⟨rfl, rfl⟩
  refine GO_q rfl rfl (ev_move rfl) ?_
  refine GO_q rfl rfl (ev_extract rfl rfl) ?_
  refine GO_q rfl rfl (ev_extract rfl rfl) ?_
  refine GO_eff rfl rfl eff_alloc ?_; rintro _ _ ⟨b2, rfl, rfl⟩
  refine GO_eff rfl rfl (eff_storeN rfl rfl rfl rfl (by repeat' first | exact Upd.here rfl | apply Upd.skip)) ?_; rintro _ _ ⟨rfl, rfl⟩
  refine GO_q rfl rfl (ev_assign rfl) ?_
  refine GO_nil ?_
  (repeat first | refine G_seq ?_ | refine G_skip ?_ | refine G_endblk ?_ | refine G_block ?_ | refine G_exit rfl ?_)
  refine G_region ?_
  refine GO_q rfl rfl (ev_move rfl) ?_
  refine GO_q rfl rfl (ev_move rfl) ?_
  refine GO_yes rfl rfl rfl rfl ?_
  refine GO_q rfl rfl (ev_loadN rfl (by repeat' first | exact LdN.blk rfl | assumption | apply LdN.skip)) ?_
  refine GO_yes rfl rfl rfl rfl ?_
  refine GO_q rfl rfl (ev_build rfl rfl) ?_
  refine GO_yes rfl rfl rfl rfl ?_
  refine GO_q rfl rfl (ev_build rfl rfl) ?_
  refine GO_yes rfl rfl rfl rfl ?_
  refine GO_q rfl rfl (ev_eql_ent rfl rfl) ?_
  refine GO_q rfl rfl (ev_pick_t rfl rfl rfl) ?_
  refine GO_q rfl rfl (ev_move rfl) ?_
  refine GO_yes rfl rfl rfl rfl ?_
  refine GO_q rfl rfl (ev_move rfl) ?_
  refine GO_yes rfl rfl rfl rfl ?_
  refine GO_eff rfl rfl (eff_call rfl (Check_ctr ⟨b, 0, none⟩ _ (fun X => live_sound _ _ (by rw [live_join]; exact hj.skip.skip.skip)))) ?_; rintro _ _ ⟨rfl, rfl⟩
  refine GO_q rfl rfl (ev_pick_t rfl rfl rfl) ?_
  refine GO_q rfl rfl (ev_move rfl) ?_
  refine GO_yes rfl rfl rfl rfl ?_
  refine GO_q rfl rfl (ev_move rfl) ?_
  refine GO_yes rfl rfl rfl rfl ?_
  refine GO_eff rfl rfl (eff_call rfl (Len_ctr (some ⟨b, 0, none⟩) (.node [⟨pb, 0, 0⟩, ⟨pa, 0, 1⟩] (leaf pa) (leaf pb)) _ (by repeat' first | assumption | apply ArrIn.skip))) ?_; rintro _ _ ⟨rfl, rfl⟩
  refine GO_yes rfl rfl rfl rfl ?_
  refine GO_q rfl rfl (ev_eql rfl rfl) ?_
  refine GO_q rfl rfl (ev_pick_t rfl rfl rfl) ?_
  refine GO_q rfl rfl (ev_assign rfl) ?_
  refine GO_nil ?_
  (repeat first | refine G_seq ?_ | refine G_skip ?_ | refine G_endblk ?_ | refine G_block ?_ | refine G_exit rfl ?_)
  refine G_ret (L' := L) rfl (.tmp rfl .nil) (by repeat first | exact en_keep hML | apply en_drop) ⟨rfl, rfl⟩
theorem cascadeLeads_ctr (A B : Option Addr) (n m c d : Nat) (l q : List Pt) (y : Int) (L : List HP) (hl : Rd L A n l) (hq : Rd L B m q) (hc : n ≤ c) (hc2 : c ≤ maxLen) (hd : m ≤ d) (hd2 : d ≤ maxLen) :
    Ctr Try.prog 3 #[.slice A n c, .slice B m d, .int .i64 y] L fun v L' => v = .bool true ∧ L' = L := by
  have hl30 : (l.take 30).length ≤ 30 := List.length_take_le _ _
  have hq30 : (q.take 30).length ≤ 30 := List.length_take_le _ _
  have t1 : (l.take 30).take 30 = l.take 30 := by rw [List.take_take]; rfl
  have t2 : (q.take 30).take 30 = q.take 30 := by rw [List.take_take]; rfl
  obtain ⟨l1, g1⟩ : ∃ l1, l.take 30 = l1 := ⟨_, rfl⟩
  obtain ⟨q1, g2⟩ : ∃ q1, q.take 30 = q1 := ⟨_, rfl⟩
  rw [g1] at hl30 t1
  rw [g2] at hq30 t2
  obtain ⟨o1, k1⟩ := made_ok 8 l1 (by omega)
  obtain ⟨o2, k2⟩ := made_ok 8 q1 (by omega)
  have s1 : (made 8 l1).es.length ≤ 100000 := by
    have := k1 (fun _ => true)
    simp [Arr.pts] at this
    omega
  have s2 : (made 8 q1).es.length ≤ 100000 := by
    have := k2 (fun _ => true)
    simp [Arr.pts] at this
    omega
  have s3 : (join (made 8 l1) (made 8 q1)).es.length ≤ 100000 := by
    have a1 := k1 (fun _ => true)
    have a2 := k2 (fun _ => true)
    rw [join_es, mrg_length]
    simp at a1 a2
    omega
  have o3 : Ord (join (made 8 l1) (made 8 q1)).pts := by
    unfold Arr.pts
    rw [join_es]
    exact mrg_ord _ _ _ _ o1 o2
  have cle : ∀ f : Pt → Bool, -9223372036854775808 ≤ (((join (made 8 l1) (made 8 q1)).pts.countP f : Nat) : Int) ∧ (((join (made 8 l1) (made 8 q1)).pts.countP f : Nat) : Int) ≤ 9223372036854775807 := fun f => by
    have a1 := List.countP_le_length (p := f) (l := (join (made 8 l1) (made 8 q1)).pts)
    have a2 : (join (made 8 l1) (made 8 q1)).pts.length = (join (made 8 l1) (made 8 q1)).es.length := List.length_map ..
    omega
  have e1 : lead (join (made 8 l1) (made 8 q1)) ((join (made 8 l1) (made 8 q1)).pts.countP (belowF y) : Nat) false = (l1.countP (belowF y) : Nat) := by rw [lead_join (belowF_falls y) _ _ o1 o2, k1]; rfl
  have e2 : lead (join (made 8 l1) (made 8 q1)) ((join (made 8 l1) (made 8 q1)).pts.countP (belowF y) : Nat) true = (q1.countP (belowF y) : Nat) := by rw [lead_join (belowF_falls y) _ _ o1 o2, k2]; rfl
  have e3 : lead (join (made 8 l1) (made 8 q1)) ((join (made 8 l1) (made 8 q1)).pts.countP (upToF y) : Nat) false = (l1.countP (upToF y) : Nat) := by rw [lead_join (upToF_falls y) _ _ o1 o2, k1]; rfl
  have e4 : lead (join (made 8 l1) (made 8 q1)) ((join (made 8 l1) (made 8 q1)).pts.countP (upToF y) : Nat) true = (q1.countP (upToF y) : Nat) := by rw [lead_join (upToF_falls y) _ _ o1 o2, k2]; rfl
  have c1 := cle (belowF y)
  have c2 := cle (upToF y)
  clear cle k1 k2
  refine Ctr_of (fn := Try.f3) (n := 64) Try.func3 rfl rfl rfl ?_
  intro g F
  (repeat first | refine G_seq ?_ | refine G_skip ?_ | refine G_endblk ?_ | refine G_block ?_ | refine G_exit rfl ?_)
  refine G_region ?_
  refine GO_q rfl rfl (ev_assign rfl) ?_
  refine GO_nil ?_
  (repeat first | refine G_seq ?_ | refine G_skip ?_ | refine G_endblk ?_ | refine G_block ?_ | refine G_exit rfl ?_)
  refine G_region ?_
  refine GO_q rfl rfl (ev_move rfl) ?_
  refine GO_eff rfl rfl (eff_call rfl (Ctr.frame [F] (Few_ctr A n c l 30 L hl hc hc2 (by omega)) (fun _ s => s))) ?_; rintro _ _ ⟨M1, ⟨A1, c1', N1, rfl, u1, u2, rfl, u3⟩, rfl⟩
  refine GO_q rfl rfl (ev_move rfl) ?_
  refine GO_eff rfl rfl (eff_call rfl (Ctr.frame [F] (Few_ctr B m d q 30 (N1 ++ L) hq.app hd hd2 (by omega)) (fun _ s => s))) ?_; rintro _ _ ⟨M2, ⟨B1, d1', N2, rfl, w1, w2, rfl, w3⟩, rfl⟩
  refine GO_q rfl rfl (ev_assign rfl) ?_
  refine GO_q rfl rfl (ev_assign rfl) ?_
  refine GO_nil ?_
  rw [g1] at u1 u3
  rw [g2] at w1 w3
  rw [g1, g2]
  have v3 : Rd (N2 ++ (N1 ++ L)) A1 l1.length l1 := u3.app
  have hML : ∀ h, sat (N2 ++ (N1 ++ L)) h → sat L h := en_app (en_app en_refl)
  clear u3
  generalize N2 ++ (N1 ++ L) = M at *
  (repeat first | refine G_seq ?_ | refine G_skip ?_ | refine G_endblk ?_ | refine G_block ?_ | refine G_exit rfl ?_)
  refine G_region ?_
  refine GO_q rfl rfl (ev_move rfl) ?_
  refine GO_eff rfl rfl (eff_call rfl (Ctr.frame [F] (Few_ctr A1 _ c1' l1 30 M v3 u1 u2 (by omega)) (fun _ s => s))) ?_; rintro _ _ ⟨M3, ⟨A2, c2', N3, rfl, x1, x2, rfl, x3⟩, rfl⟩
  refine GO_eff rfl rfl (eff_call rfl (Ctr.frame [F] (made_ctr 8 (l1.take 30) A2 _ c2' (N3 ++ M) (by rw [t1]; omega) (by rw [t1]; omega) (by omega) x3 x1 x2) (fun _ s => s))) ?_; rintro _ _ ⟨M4, ⟨qa, N4, rfl, rfl, ha⟩, rfl⟩
  refine GO_q rfl rfl (ev_move rfl) ?_
  refine GO_eff rfl rfl (eff_call rfl (Ctr.frame [F] (Few_ctr B1 _ d1' q1 30 (N4 ++ (N3 ++ M)) w3.app.app w1 w2 (by omega)) (fun _ s => s))) ?_; rintro _ _ ⟨M5, ⟨B2, d2', N5, rfl, y1, y2, rfl, y3⟩, rfl⟩
  refine GO_eff rfl rfl (eff_call rfl (Ctr.frame [F] (made_ctr 8 (q1.take 30) B2 _ d2' (N5 ++ (N4 ++ (N3 ++ M))) (by rw [t2]; omega) (by rw [t2]; omega) (by omega) y3 y1 y2) (fun _ s => s))) ?_; rintro _ _ ⟨M6, ⟨qb, N6, rfl, rfl, hb⟩, rfl⟩
  refine GO_eff rfl rfl (eff_call rfl (Ctr.frame [F] (Join_ctr qa qb (made 8 (l1.take 30)) (made 8 (q1.take 30)) (N6 ++ (N5 ++ (N4 ++ (N3 ++ M)))) ha.app.app hb (by rw [t1]; exact s1) (by rw [t2]; exact s2)) (fun _ s => s))) ?_; rintro _ _ ⟨M7, ⟨qj, N7, rfl, rfl, hj⟩, rfl⟩
  refine GO_q rfl rfl (ev_assign rfl) ?_
  refine GO_nil ?_
  rw [t1, t2] at hj
  have z1 : Rd (N7 ++ (N6 ++ (N5 ++ (N4 ++ (N3 ++ M))))) A1 l1.length l1 := v3.app.app.app.app.app
  have z2 : Rd (N7 ++ (N6 ++ (N5 ++ (N4 ++ (N3 ++ M))))) B1 q1.length q1 := w3.app.app.app.app.app
  have hML2 : ∀ h, sat (N7 ++ (N6 ++ (N5 ++ (N4 ++ (N3 ++ M))))) h → sat L h := en_app (en_app (en_app (en_app (en_app hML))))
  clear v3 w3 x3 y3 ha hb hML
  generalize N7 ++ (N6 ++ (N5 ++ (N4 ++ (N3 ++ M)))) = M9 at *
  generalize join (made 8 l1) (made 8 q1) = J at *
  (repeat first | refine G_seq ?_ | refine G_skip ?_ | refine G_endblk ?_ | refine G_block ?_ | refine G_exit rfl ?_)
  refine G_region ?_
  refine GO_q rfl rfl (ev_move rfl) ?_
  refine GO_q rfl rfl (ev_move rfl) ?_
  refine GO_eff rfl rfl (eff_call rfl (Place_ctr qj J y _ (by repeat' first | assumption | apply ArrIn.skip) o3)) ?_; rintro _ _ ⟨rfl, rfl⟩
  refine GO_q rfl rfl (ev_move rfl) ?_
  refine GO_q rfl rfl (ev_move rfl) ?_
  refine GO_eff rfl rfl (eff_call rfl (Past_ctr qj J y _ (by repeat' first | assumption | apply ArrIn.skip) o3)) ?_; rintro _ _ ⟨rfl, rfl⟩
  refine GO_q rfl rfl (ev_assign rfl) ?_
  refine GO_q rfl rfl (ev_assign rfl) ?_
  refine GO_nil ?_
  (repeat first | refine G_seq ?_ | refine G_skip ?_ | refine G_endblk ?_ | refine G_block ?_ | refine G_exit rfl ?_)
  refine G_region ?_
  refine GO_q rfl rfl (ev_move rfl) ?_
  refine GO_q rfl rfl (ev_move rfl) ?_
  refine GO_eff rfl rfl (eff_call rfl (Lead_ctr qj J _ false _ (by repeat' first | assumption | apply ArrIn.skip) s3 c1)) ?_; rintro _ _ ⟨rfl, rfl⟩
  refine GO_q rfl rfl (ev_move rfl) ?_
  refine GO_q rfl rfl (ev_move rfl) ?_
  refine GO_eff rfl rfl (eff_call rfl (Below_ctr A1 l1.length c1' l1 y _ z1.skip (by omega))) ?_; rintro _ _ ⟨rfl, rfl⟩
  refine GO_q rfl rfl (ev_eql rfl rfl) ?_
  refine GO_q rfl rfl (ev_move rfl) ?_
  refine GO_yes rfl rfl rfl (decide_eq_true e1) ?_
  refine GO_q rfl rfl (ev_move rfl) ?_
  refine GO_yes rfl rfl rfl (decide_eq_true e1) ?_
  refine GO_q rfl rfl (ev_move rfl) ?_
  refine GO_yes rfl rfl rfl (decide_eq_true e1) ?_
  refine GO_eff rfl rfl (eff_call rfl (Lead_ctr qj J _ true _ (by repeat' first | assumption | apply ArrIn.skip) s3 c1)) ?_; rintro _ _ ⟨rfl, rfl⟩
  refine GO_yes rfl rfl rfl (decide_eq_true e1) ?_
  refine GO_q rfl rfl (ev_move rfl) ?_
  refine GO_yes rfl rfl rfl (decide_eq_true e1) ?_
  refine GO_q rfl rfl (ev_move rfl) ?_
  refine GO_yes rfl rfl rfl (decide_eq_true e1) ?_
  refine GO_eff rfl rfl (eff_call rfl (Below_ctr B1 q1.length d1' q1 y _ z2.skip (by omega))) ?_; rintro _ _ ⟨rfl, rfl⟩
  refine GO_yes rfl rfl rfl (decide_eq_true e1) ?_
  refine GO_q rfl rfl (ev_eql rfl rfl) ?_
  refine GO_q rfl rfl (ev_pick_t rfl (decide_eq_true e1) rfl) ?_
  refine GO_q rfl rfl (ev_move rfl) ?_
  refine GO_yes rfl rfl rfl (decide_eq_true e2) ?_
  refine GO_q rfl rfl (ev_move rfl) ?_
  refine GO_yes rfl rfl rfl (decide_eq_true e2) ?_
  refine GO_q rfl rfl (ev_move rfl) ?_
  refine GO_yes rfl rfl rfl (decide_eq_true e2) ?_
  refine GO_eff rfl rfl (eff_call rfl (Lead_ctr qj J _ false _ (by repeat' first | assumption | apply ArrIn.skip) s3 c2)) ?_; rintro _ _ ⟨rfl, rfl⟩
  refine GO_yes rfl rfl rfl (decide_eq_true e2) ?_
  refine GO_q rfl rfl (ev_move rfl) ?_
  refine GO_yes rfl rfl rfl (decide_eq_true e2) ?_
  refine GO_q rfl rfl (ev_move rfl) ?_
  refine GO_yes rfl rfl rfl (decide_eq_true e2) ?_
  refine GO_eff rfl rfl (eff_call rfl (UpTo_ctr A1 l1.length c1' l1 y _ z1.skip (by omega))) ?_; rintro _ _ ⟨rfl, rfl⟩
  refine GO_yes rfl rfl rfl (decide_eq_true e2) ?_
  refine GO_q rfl rfl (ev_eql rfl rfl) ?_
  refine GO_q rfl rfl (ev_pick_t rfl (decide_eq_true e2) rfl) ?_
  refine GO_q rfl rfl (ev_move rfl) ?_
  refine GO_yes rfl rfl rfl (decide_eq_true e3) ?_
  refine GO_q rfl rfl (ev_move rfl) ?_
  refine GO_yes rfl rfl rfl (decide_eq_true e3) ?_
  refine GO_q rfl rfl (ev_move rfl) ?_
  refine GO_yes rfl rfl rfl (decide_eq_true e3) ?_
  refine GO_eff rfl rfl (eff_call rfl (Lead_ctr qj J _ true _ (by repeat' first | assumption | apply ArrIn.skip) s3 c2)) ?_; rintro _ _ ⟨rfl, rfl⟩
  refine GO_yes rfl rfl rfl (decide_eq_true e3) ?_
  refine GO_q rfl rfl (ev_move rfl) ?_
  refine GO_yes rfl rfl rfl (decide_eq_true e3) ?_
  refine GO_q rfl rfl (ev_move rfl) ?_
  refine GO_yes rfl rfl rfl (decide_eq_true e3) ?_
  refine GO_eff rfl rfl (eff_call rfl (UpTo_ctr B1 q1.length d1' q1 y _ z2.skip (by omega))) ?_; rintro _ _ ⟨rfl, rfl⟩
  refine GO_yes rfl rfl rfl (decide_eq_true e3) ?_
  refine GO_q rfl rfl (ev_eql rfl rfl) ?_
  refine GO_q rfl rfl (ev_pick_t rfl (decide_eq_true e3) rfl) ?_
  refine GO_q rfl rfl (ev_move rfl) ?_
  refine GO_yes rfl rfl rfl (decide_eq_true e4) ?_
  refine GO_eff rfl rfl (eff_call rfl (lives_ctr _)) ?_; rintro _ _ ⟨rfl, rfl⟩
  refine GO_q rfl rfl (ev_pick_t rfl (decide_eq_true e4) rfl) ?_
  refine GO_q rfl rfl (ev_assign rfl) ?_
  refine GO_nil ?_
  (repeat first | refine G_seq ?_ | refine G_skip ?_ | refine G_endblk ?_ | refine G_block ?_ | refine G_exit rfl ?_)
  exact G_ret (L' := L) rfl (.tmp rfl .nil) (en_keep hML2) ⟨rfl, rfl⟩
end Go.Proofs.Ytcdafmmfcjbodaa
