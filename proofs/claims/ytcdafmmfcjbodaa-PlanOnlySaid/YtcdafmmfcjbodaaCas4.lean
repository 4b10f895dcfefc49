/- Arrays that lead into one another: what is found. -/
import Derived.Test.YtcdafmmfcjbodaaCas2
namespace Go.Proofs.Ytcdafmmfcjbodaa
attribute [local irreducible] sat
set_option linter.unusedVariables false
set_option linter.unusedSimpArgs false
set_option maxRecDepth 100000

theorem first1_ctr (e f : Ent) (b1 b2 : Nat) (L : List HP) (h1 : Ld L ⟨b1, 0, none⟩ (.func (.func 43) #[] #[])) (h2 : LdN L b2 0 5 (Enc.enc f)) :
    Ctr Try.prog 79 #[.agg #[.int .i64 e.p.id, .int .i64 e.p.x, .int .i64 e.p.y, .int .i64 e.low, .int .i64 e.high], .pointer (some ⟨b1, 0, none⟩), .pointer (some ⟨b2, 0, none⟩)] L fun v L' => v = .bool (!decide (e.p.y < f.p.y)) ∧ L' = L := by
  refine Ctr_of (fn := Try.f79) (n := 10) Try.func79 rfl rfl rfl ?_
  intro g F
  (repeat first | refine G_seq ?_ | refine G_skip ?_ | refine G_endblk ?_ | refine G_block ?_ | refine G_exit rfl ?_)
  refine G_region ?_
  refine GO_eff rfl rfl (eff_box rfl) ?_; rintro _ _ ⟨b3, rfl, rfl⟩
  refine GO_q rfl rfl (ev_assign rfl) ?_
  refine GO_nil ?_
  (repeat first | refine G_seq ?_ | refine G_skip ?_ | refine G_endblk ?_ | refine G_block ?_ | refine G_exit rfl ?_)
  refine G_region ?_
  refine GO_q rfl rfl (ev_load rfl (by repeat' first | exact Ld.blk rfl | assumption | apply Ld.skip | apply Ld.app)) ?_
  refine GO_q rfl rfl (ev_loadN rfl (by repeat' first | exact LdN.blk rfl | assumption | apply LdN.skip | apply LdN.app)) ?_
  refine GO_q rfl rfl (ev_loadN rfl (by repeat' first | exact LdN.blk rfl | assumption | apply LdN.skip | apply LdN.app)) ?_
  refine GO_eff rfl rfl (eff_callv rfl rfl (lower_ctr e f _)) ?_; rintro _ _ ⟨rfl, rfl⟩
  refine GO_q rfl rfl (ev_not rfl) ?_
  refine GO_q rfl rfl (ev_assign rfl) ?_
  refine GO_nil ?_
  (repeat first | refine G_seq ?_ | refine G_skip ?_ | refine G_endblk ?_ | refine G_block ?_ | refine G_exit rfl ?_)
  refine G_ret rfl (.tmp rfl .nil) (by (repeat first | exact fun _ s => s | apply en_keep | apply en_drop | apply en_app) <;> fail) ⟨rfl, rfl⟩
theorem behind1_ctr (e f : Ent) (b1 b2 : Nat) (L : List HP) (h1 : Ld L ⟨b1, 0, none⟩ (.func (.func 43) #[] #[])) (h2 : LdN L b2 0 5 (Enc.enc f)) :
    Ctr Try.prog 80 #[.agg #[.int .i64 e.p.id, .int .i64 e.p.x, .int .i64 e.p.y, .int .i64 e.low, .int .i64 e.high], .pointer (some ⟨b1, 0, none⟩), .pointer (some ⟨b2, 0, none⟩)] L fun v L' => v = .bool (decide (f.p.y < e.p.y)) ∧ L' = L := by
  refine Ctr_of (fn := Try.f80) (n := 9) Try.func80 rfl rfl rfl ?_
  intro g F
  (repeat first | refine G_seq ?_ | refine G_skip ?_ | refine G_endblk ?_ | refine G_block ?_ | refine G_exit rfl ?_)
  refine G_region ?_
  refine GO_eff rfl rfl (eff_box rfl) ?_; rintro _ _ ⟨b3, rfl, rfl⟩
  refine GO_q rfl rfl (ev_assign rfl) ?_
  refine GO_nil ?_
  (repeat first | refine G_seq ?_ | refine G_skip ?_ | refine G_endblk ?_ | refine G_block ?_ | refine G_exit rfl ?_)
  refine G_region ?_
  refine GO_q rfl rfl (ev_load rfl (by repeat' first | exact Ld.blk rfl | assumption | apply Ld.skip | apply Ld.app)) ?_
  refine GO_q rfl rfl (ev_loadN rfl (by repeat' first | exact LdN.blk rfl | assumption | apply LdN.skip | apply LdN.app)) ?_
  refine GO_q rfl rfl (ev_loadN rfl (by repeat' first | exact LdN.blk rfl | assumption | apply LdN.skip | apply LdN.app)) ?_
  refine GO_eff rfl rfl (eff_callv rfl rfl (lower_ctr f e _)) ?_; rintro _ _ ⟨rfl, rfl⟩
  refine GO_q rfl rfl (ev_assign rfl) ?_
  refine GO_nil ?_
  (repeat first | refine G_seq ?_ | refine G_skip ?_ | refine G_endblk ?_ | refine G_block ?_ | refine G_exit rfl ?_)
  refine G_ret rfl (.tmp rfl .nil) (by (repeat first | exact fun _ s => s | apply en_keep | apply en_drop | apply en_app) <;> fail) ⟨rfl, rfl⟩
theorem first_ctr (A : Option Addr) (n c m : Nat) (es : List Ent) (f : Ent) (L : List HP) (hr : Rd L A n es) (hc : n ≤ c) (hc2 : c ≤ maxLen) (hm : m ≤ n) (hmono : ∀ k e, es[k]? = some e → (decide (e.p.y < f.p.y) = decide (k < m))) :
    Ctr Try.prog 64 #[.slice A n c, .agg #[.int .i64 f.p.id, .int .i64 f.p.x, .int .i64 f.p.y, .int .i64 f.low, .int .i64 f.high], .func (.func 43) #[] #[]] L fun v L' => v = .int .i64 m ∧ L' = L := by
  have hlen : es.length = n := hr.len (by decide)
  refine Ctr_of (fn := Try.f64) (n := 10) Try.func64 rfl rfl rfl ?_
  intro g F
  (repeat first | refine G_seq ?_ | refine G_skip ?_ | refine G_endblk ?_ | refine G_block ?_ | refine G_exit rfl ?_)
  refine G_region ?_
  refine GO_eff rfl rfl (eff_box rfl) ?_; rintro _ _ ⟨b4, rfl, rfl⟩
  refine GO_eff rfl rfl (eff_box rfl) ?_; rintro _ _ ⟨b5, rfl, rfl⟩
  refine GO_q rfl rfl (ev_assign rfl) ?_
  refine GO_nil ?_
  (repeat first | refine G_seq ?_ | refine G_skip ?_ | refine G_endblk ?_ | refine G_block ?_ | refine G_exit rfl ?_)
  refine G_region ?_
  refine GO_q rfl rfl (ev_move rfl) ?_
  refine GO_q rfl rfl (ev_makeFunc rfl rfl) ?_
  refine GO_eff rfl rfl (eff_call rfl (seek_ctr A n c 79 m es [.pointer (some ⟨b5, 0, none⟩), .pointer (some ⟨b4, 0, none⟩)] (fun k => !decide (k < m)) _ hr.skip.skip.skip hc hc2 (fun k e hk => (first1_ctr e f b5 b4 _ (by repeat' first | exact Ld.blk rfl | assumption | apply Ld.skip | apply Ld.app) (by repeat' first | exact LdN.blk rfl | assumption | apply LdN.skip | apply LdN.app)).mono (fun v L' h => by rw [hmono k e hk] at h; exact h)) hm (fun k hk => by by_cases h : k < m <;> simp [h] <;> omega))) ?_; rintro _ _ ⟨rfl, rfl⟩
  refine GO_q rfl rfl (ev_assign rfl) ?_
  refine GO_nil ?_
  (repeat first | refine G_seq ?_ | refine G_skip ?_ | refine G_endblk ?_ | refine G_block ?_ | refine G_exit rfl ?_)
  refine G_ret rfl (.tmp rfl .nil) (by (repeat first | exact fun _ s => s | apply en_keep | apply en_drop | apply en_app) <;> fail) ⟨rfl, rfl⟩
theorem behind_ctr (A : Option Addr) (n c m : Nat) (es : List Ent) (f : Ent) (L : List HP) (hr : Rd L A n es) (hc : n ≤ c) (hc2 : c ≤ maxLen) (hm : m ≤ n) (hmono : ∀ k e, es[k]? = some e → (decide (f.p.y < e.p.y) = decide (m ≤ k))) :
    Ctr Try.prog 65 #[.slice A n c, .agg #[.int .i64 f.p.id, .int .i64 f.p.x, .int .i64 f.p.y, .int .i64 f.low, .int .i64 f.high], .func (.func 43) #[] #[]] L fun v L' => v = .int .i64 m ∧ L' = L := by
  have hlen : es.length = n := hr.len (by decide)
  refine Ctr_of (fn := Try.f65) (n := 10) Try.func65 rfl rfl rfl ?_
  intro g F
  (repeat first | refine G_seq ?_ | refine G_skip ?_ | refine G_endblk ?_ | refine G_block ?_ | refine G_exit rfl ?_)
  refine G_region ?_
  refine GO_eff rfl rfl (eff_box rfl) ?_; rintro _ _ ⟨b4, rfl, rfl⟩
  refine GO_eff rfl rfl (eff_box rfl) ?_; rintro _ _ ⟨b5, rfl, rfl⟩
  refine GO_q rfl rfl (ev_assign rfl) ?_
  refine GO_nil ?_
  (repeat first | refine G_seq ?_ | refine G_skip ?_ | refine G_endblk ?_ | refine G_block ?_ | refine G_exit rfl ?_)
  refine G_region ?_
  refine GO_q rfl rfl (ev_move rfl) ?_
  refine GO_q rfl rfl (ev_makeFunc rfl rfl) ?_
  refine GO_eff rfl rfl (eff_call rfl (seek_ctr A n c 80 m es [.pointer (some ⟨b5, 0, none⟩), .pointer (some ⟨b4, 0, none⟩)] (fun k => decide (m ≤ k)) _ hr.skip.skip.skip hc hc2 (fun k e hk => (behind1_ctr e f b5 b4 _ (by repeat' first | exact Ld.blk rfl | assumption | apply Ld.skip | apply Ld.app) (by repeat' first | exact LdN.blk rfl | assumption | apply LdN.skip | apply LdN.app)).mono (fun v L' h => by rw [hmono k e hk] at h; exact h)) hm (fun k hk => rfl))) ?_; rintro _ _ ⟨rfl, rfl⟩
  refine GO_q rfl rfl (ev_assign rfl) ?_
  refine GO_nil ?_
  (repeat first | refine G_seq ?_ | refine G_skip ?_ | refine G_endblk ?_ | refine G_block ?_ | refine G_exit rfl ?_)
  refine G_ret rfl (.tmp rfl .nil) (by (repeat first | exact fun _ s => s | apply en_keep | apply en_drop | apply en_app) <;> fail) ⟨rfl, rfl⟩
theorem First_ctr (A : Option Addr) (n c m : Nat) (es : List Ent) (f : Ent) (L : List HP) (hr : Rd L A n es) (hc : n ≤ c) (hc2 : c ≤ maxLen) (hm : m ≤ n) (hmono : ∀ k e, es[k]? = some e → (decide (e.p.y < f.p.y) = decide (k < m))) :
    Ctr Try.prog 41 #[.slice A n c, .agg #[.int .i64 f.p.id, .int .i64 f.p.x, .int .i64 f.p.y, .int .i64 f.low, .int .i64 f.high], .func (.func 43) #[] #[]] L fun v L' => v = .int .i64 m ∧ L' = L := by
  refine Ctr_of (fn := Try.f41) (n := 11) Try.func41 rfl rfl rfl ?_
  intro g F
  (repeat first | refine G_seq ?_ | refine G_skip ?_ | refine G_endblk ?_ | refine G_block ?_ | refine G_exit rfl ?_)
  refine G_region ?_
  refine GO_eff rfl rfl (eff_box rfl) ?_; rintro _ _ ⟨b4, rfl, rfl⟩
  refine GO_q rfl rfl (ev_assign rfl) ?_
  refine GO_nil ?_
  (repeat first | refine G_seq ?_ | refine G_skip ?_ | refine G_endblk ?_ | refine G_block ?_ | refine G_exit rfl ?_)
  refine G_region ?_
  refine GO_q rfl rfl (ev_move rfl) ?_
  refine GO_q rfl rfl (ev_loadN rfl (by repeat' first | exact LdN.blk rfl | assumption | apply LdN.skip | apply LdN.app)) ?_
  refine GO_q rfl rfl (ev_move rfl) ?_
  refine GO_eff rfl rfl (eff_call rfl (first_ctr A n c m es f _ hr.skip.skip hc hc2 hm hmono)) ?_; rintro _ _ ⟨rfl, rfl⟩
  refine GO_q rfl rfl (ev_assign rfl) ?_
  refine GO_nil ?_
  (repeat first | refine G_seq ?_ | refine G_skip ?_ | refine G_endblk ?_ | refine G_block ?_ | refine G_exit rfl ?_)
  refine G_ret rfl (.tmp rfl .nil) (by (repeat first | exact fun _ s => s | apply en_keep | apply en_drop | apply en_app) <;> fail) ⟨rfl, rfl⟩
theorem Behind_ctr (A : Option Addr) (n c m : Nat) (es : List Ent) (f : Ent) (L : List HP) (hr : Rd L A n es) (hc : n ≤ c) (hc2 : c ≤ maxLen) (hm : m ≤ n) (hmono : ∀ k e, es[k]? = some e → (decide (f.p.y < e.p.y) = decide (m ≤ k))) :
    Ctr Try.prog 44 #[.slice A n c, .agg #[.int .i64 f.p.id, .int .i64 f.p.x, .int .i64 f.p.y, .int .i64 f.low, .int .i64 f.high], .func (.func 43) #[] #[]] L fun v L' => v = .int .i64 m ∧ L' = L := by
  refine Ctr_of (fn := Try.f44) (n := 11) Try.func44 rfl rfl rfl ?_
  intro g F
  (repeat first | refine G_seq ?_ | refine G_skip ?_ | refine G_endblk ?_ | refine G_block ?_ | refine G_exit rfl ?_)
  refine G_region ?_
  refine GO_eff rfl rfl (eff_box rfl) ?_; rintro _ _ ⟨b4, rfl, rfl⟩
  refine GO_q rfl rfl (ev_assign rfl) ?_
  refine GO_nil ?_
  (repeat first | refine G_seq ?_ | refine G_skip ?_ | refine G_endblk ?_ | refine G_block ?_ | refine G_exit rfl ?_)
  refine G_region ?_
  refine GO_q rfl rfl (ev_move rfl) ?_
  refine GO_q rfl rfl (ev_loadN rfl (by repeat' first | exact LdN.blk rfl | assumption | apply LdN.skip | apply LdN.app)) ?_
  refine GO_q rfl rfl (ev_move rfl) ?_
  refine GO_eff rfl rfl (eff_call rfl (behind_ctr A n c m es f _ hr.skip.skip hc hc2 hm hmono)) ?_; rintro _ _ ⟨rfl, rfl⟩
  refine GO_q rfl rfl (ev_assign rfl) ?_
  refine GO_nil ?_
  (repeat first | refine G_seq ?_ | refine G_skip ?_ | refine G_endblk ?_ | refine G_block ?_ | refine G_exit rfl ?_)
  refine G_ret rfl (.tmp rfl .nil) (by (repeat first | exact fun _ s => s | apply en_keep | apply en_drop | apply en_app) <;> fail) ⟨rfl, rfl⟩
def belowF (y : Int) (p : Pt) : Bool := decide (p.y < y)
def upToF (y : Int) (p : Pt) : Bool := decide (p.y ≤ y)
theorem belowF_falls (y : Int) : Falls (belowF y) := fun p q h hq => by simp [belowF] at *; omega
theorem upToF_falls (y : Int) : Falls (upToF y) := fun p q h hq => by simp [upToF] at *; omega
theorem Place_ctr (p : Option Addr) (t : Arr) (y : Int) (L : List HP) (h : ArrIn L p t) (ho : Ord t.pts) :
    Ctr Try.prog 12 #[.pointer p, .int .i64 y] L fun v L' => v = .int .i64 (t.pts.countP (belowF y) : Nat) ∧ L' = L := by
  have hle : t.pts.countP (belowF y) ≤ t.es.length := by have := List.countP_le_length (p := belowF y) (l := t.pts); rwa [Arr.pts, List.length_map] at this
  refine Ctr_of (fn := Try.f12) (n := 11) Try.func12 rfl rfl rfl ?_
  intro g F
  (repeat first | refine G_seq ?_ | refine G_skip ?_ | refine G_endblk ?_ | refine G_block ?_ | refine G_exit rfl ?_)
  refine G_region ?_
  refine GO_q rfl rfl (ev_assign rfl) ?_
  refine GO_nil ?_
  (repeat first | refine G_seq ?_ | refine G_skip ?_ | refine G_endblk ?_ | refine G_block ?_ | refine G_exit rfl ?_)
  refine G_region ?_
  refine GO_q rfl rfl (ev_move rfl) ?_
  refine GO_eff rfl rfl (eff_call rfl (entries_ctr p t _ (by repeat' first | assumption | apply ArrIn.skip))) ?_; rintro _ _ ⟨⟨A, c, rfl, hr, hc, hc2⟩, rfl⟩
  refine GO_q rfl rfl (ev_move rfl) ?_
  refine GO_q rfl rfl (ev_build rfl rfl) ?_
  refine GO_q rfl rfl (ev_build rfl rfl) ?_
  refine GO_eff rfl rfl (eff_call rfl (First_ctr A t.es.length c (t.pts.countP (belowF y)) t.es ⟨⟨0, 0, y⟩, 0, 0⟩ _ hr hc hc2 hle (fun k e hk => by have := ord_first (belowF_falls y) t.pts ho k e.p (by simp [Arr.pts, hk]); by_cases h9 : k < t.pts.countP (belowF y) <;> simp [belowF, h9] at this ⊢ <;> simp [this]))) ?_; rintro _ _ ⟨rfl, rfl⟩
  refine GO_q rfl rfl (ev_assign rfl) ?_
  refine GO_nil ?_
  (repeat first | refine G_seq ?_ | refine G_skip ?_ | refine G_endblk ?_ | refine G_block ?_ | refine G_exit rfl ?_)
  refine G_ret rfl (.tmp rfl .nil) (by (repeat first | exact fun _ s => s | apply en_keep | apply en_drop | apply en_app) <;> fail) ⟨rfl, rfl⟩
theorem Past_ctr (p : Option Addr) (t : Arr) (y : Int) (L : List HP) (h : ArrIn L p t) (ho : Ord t.pts) :
    Ctr Try.prog 13 #[.pointer p, .int .i64 y] L fun v L' => v = .int .i64 (t.pts.countP (upToF y) : Nat) ∧ L' = L := by
  have hle : t.pts.countP (upToF y) ≤ t.es.length := by have := List.countP_le_length (p := upToF y) (l := t.pts); rwa [Arr.pts, List.length_map] at this
  refine Ctr_of (fn := Try.f13) (n := 11) Try.func13 rfl rfl rfl ?_
  intro g F
  (repeat first | refine G_seq ?_ | refine G_skip ?_ | refine G_endblk ?_ | refine G_block ?_ | refine G_exit rfl ?_)
  refine G_region ?_
  refine GO_q rfl rfl (ev_assign rfl) ?_
  refine GO_nil ?_
  (repeat first | refine G_seq ?_ | refine G_skip ?_ | refine G_endblk ?_ | refine G_block ?_ | refine G_exit rfl ?_)
  refine G_region ?_
  refine GO_q rfl rfl (ev_move rfl) ?_
  refine GO_eff rfl rfl (eff_call rfl (entries_ctr p t _ (by repeat' first | assumption | apply ArrIn.skip))) ?_; rintro _ _ ⟨⟨A, c, rfl, hr, hc, hc2⟩, rfl⟩
  refine GO_q rfl rfl (ev_move rfl) ?_
  refine GO_q rfl rfl (ev_build rfl rfl) ?_
  refine GO_q rfl rfl (ev_build rfl rfl) ?_
  refine GO_eff rfl rfl (eff_call rfl (Behind_ctr A t.es.length c (t.pts.countP (upToF y)) t.es ⟨⟨0, 0, y⟩, 0, 0⟩ _ hr hc hc2 hle (fun k e hk => by have := ord_first (upToF_falls y) t.pts ho k e.p (by simp [Arr.pts, hk]); by_cases h9 : k < t.pts.countP (upToF y) <;> simp [upToF, h9] at this ⊢ <;> omega))) ?_; rintro _ _ ⟨rfl, rfl⟩
  refine GO_q rfl rfl (ev_assign rfl) ?_
  refine GO_nil ?_
  (repeat first | refine G_seq ?_ | refine G_skip ?_ | refine G_endblk ?_ | refine G_block ?_ | refine G_exit rfl ?_)
  refine G_ret rfl (.tmp rfl .nil) (by (repeat first | exact fun _ s => s | apply en_keep | apply en_drop | apply en_app) <;> fail) ⟨rfl, rfl⟩
end Go.Proofs.Ytcdafmmfcjbodaa
