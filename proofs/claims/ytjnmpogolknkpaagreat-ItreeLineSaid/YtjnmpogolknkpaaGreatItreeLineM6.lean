/- Texts of the law ItreeLine, one behind the other. -/
import Derived.Test.YtjnmpogolknkpaaGreatItreeLineM5
import Derived.Test.YtjnmpogolknkpaaGreatItreeLineM1
import Derived.Test.YtjnmpogolknkpaaGreatItreeLineM3
/- That a tree of middles lives. -/
namespace Go.Proofs.YtjnmpogolknkpaaGreat
attribute [local irreducible] sat
open Go.RowKit
set_option linter.unusedVariables false
set_option linter.unusedSimpArgs false
set_option maxRecDepth 100000

theorem lk0 : insE 3 [] ⟨1, 0, 5⟩ = 0 := by decide
theorem lk1 : insE 3 [⟨1, 0, 5⟩] ⟨2, 4, 9⟩ = 0 := by decide
theorem lm0 : insK 3 [] ⟨1, 0, 5⟩ = [⟨1, 0, 5⟩] := if_pos lk0
theorem lm1 : insK 3 [⟨1, 0, 5⟩] ⟨2, 4, 9⟩ = [⟨1, 0, 5⟩, ⟨2, 4, 9⟩] := if_pos lk1
theorem lo0 : overK [⟨1, 0, 5⟩, ⟨2, 4, 9⟩] 4 4 = [1, 2] := by
  have h : idsOf ([⟨1, 0, 5⟩, ⟨2, 4, 9⟩].filter fun s : Pt => decide ((4 : Int) ≤ 4 ∧ s.x ≤ 4 ∧ 4 ≤ s.y)) = [1, 2] := by decide
  unfold overK; rw [h]; exact eq_of_sorted _ _ (srt_perm _) (srt_sorted _) (by decide)
theorem lo1 : overK [⟨1, 0, 5⟩, ⟨2, 4, 9⟩] 6 7 = [2] := by
  have h : idsOf ([⟨1, 0, 5⟩, ⟨2, 4, 9⟩].filter fun s : Pt => decide ((6 : Int) ≤ 7 ∧ s.x ≤ 7 ∧ 6 ≤ s.y)) = [2] := by decide
  unfold overK; rw [h]; exact eq_of_sorted _ _ (srt_perm _) (srt_sorted _) (by decide)
theorem ld_owns {ab c k : Nat} {l : List Int} {x : Int} (h : l[k]? = some x) : ∀ X, Ld (own 3 1 (some ⟨ab, 0, none⟩) l.length c (flat l) :: X) ⟨ab, 0 + k * 1, none⟩ (.int .i64 x) := fun X => by
  have r : Rd (own 3 1 (some ⟨ab, 0, none⟩) l.length c (flat l) :: X) (some ⟨ab, 0, none⟩) l.length l := Rc.own (flat_length _) (fun _ => ⟨ab, rfl⟩)
  obtain ⟨_, _, e9, hx⟩ := r.at_ (by rcases Nat.lt_or_ge k l.length with h' | h'; omega; rw [List.getElem?_eq_none h'] at h; cases h)
  cases e9
  exact (hx k x h).at_ (i := 0) rfl
theorem lives20_ctr (L : List HP) : Ctr Tryz.prog 20 #[] L fun v L' => v = .bool true ∧ ∃ X, L' = X ++ L := by
  have c1 := fun t L => IInsert_ctr t 3 [] ⟨1, 0, 5⟩ L (by decide)
  have c2 := fun t L => IInsert_ctr t 3 [⟨1, 0, 5⟩] ⟨2, 4, 9⟩ L (by decide)
  have c3 := fun t L => IStab_ctr t 3 [⟨1, 0, 5⟩, ⟨2, 4, 9⟩] L 4 (by decide)
  have c4 := fun t L => IOverlap_ctr t 3 [⟨1, 0, 5⟩, ⟨2, 4, 9⟩] L 6 7 (by decide)
  have c5 := fun t L => ICheck_ctr t 3 [⟨1, 0, 5⟩, ⟨2, 4, 9⟩] L (by decide) (by decide)
  rw [lo0] at c3
  rw [lo1] at c4
  rw [lm0, lk0] at c1
  rw [lm1, lk1] at c2
  refine Ctr_of (fn := Tryz.f20) (n := 63) Tryz.func20 rfl rfl rfl ?_
  intro g F
  (repeat first | refine G_seq ?_ | refine G_skip ?_ | refine G_endblk ?_ | refine G_block ?_ | refine G_exit rfl ?_)
  refine G_region ?_
  refine GO_q rfl rfl (ev_assign rfl) ?_
  refine GO_nil ?_
  (repeat first | refine G_seq ?_ | refine G_skip ?_ | refine G_endblk ?_ | refine G_block ?_ | refine G_exit rfl ?_)
  refine G_region ?_
  refine GO_eff rfl rfl (eff_call rfl (iNew_ctr 3 _ (by decide) (by decide))) ?_; rintro _ _ ⟨t, rfl, rfl⟩
  refine GO_q rfl rfl (ev_move rfl) ?_
  refine GO_q rfl rfl (ev_extract rfl rfl) ?_
  refine GO_q rfl rfl (ev_extract rfl rfl) ?_
  refine GO_q rfl rfl (ev_assign rfl) ?_
  refine GO_q rfl rfl (ev_assign rfl) ?_
  refine GO_nil ?_
  (repeat first | refine G_seq ?_ | refine G_skip ?_ | refine G_endblk ?_ | refine G_block ?_ | refine G_exit rfl ?_)
  refine G_region ?_
  refine GO_q rfl rfl (ev_move rfl) ?_
  refine GO_q rfl rfl (ev_build rfl rfl) ?_
  refine GO_eff rfl rfl (eff_call rfl (Ctr.pick (by repeat' first | exact Pick.here | apply Pick.skip | apply Pick.app) (c1 t _))) ?_; rintro _ _ ⟨rfl, rfl⟩
  refine GO_q rfl rfl (ev_assign rfl) ?_
  refine GO_nil ?_
  (repeat first | refine G_seq ?_ | refine G_skip ?_ | refine G_endblk ?_ | refine G_block ?_ | refine G_exit rfl ?_)
  refine G_region ?_
  refine GO_q rfl rfl (ev_move rfl) ?_
  refine GO_q rfl rfl (ev_build rfl rfl) ?_
  refine GO_eff rfl rfl (eff_call rfl (Ctr.pick (by repeat' first | exact Pick.here | apply Pick.skip | apply Pick.app) (c2 t _))) ?_; rintro _ _ ⟨rfl, rfl⟩
  refine GO_q rfl rfl (ev_assign rfl) ?_
  refine GO_nil ?_
  (repeat first | refine G_seq ?_ | refine G_skip ?_ | refine G_endblk ?_ | refine G_block ?_ | refine G_exit rfl ?_)
  refine G_region ?_
  refine GO_q rfl rfl (ev_move rfl) ?_
  refine GO_eff rfl rfl (eff_call rfl (Ctr.pick (by repeat' first | exact Pick.here | apply Pick.skip | apply Pick.app) (c3 t _))) ?_; rintro _ _ ⟨A, c, rfl, hA, rfl⟩
  refine GO_q rfl rfl (ev_move rfl) ?_
  refine GO_eff rfl rfl (eff_call rfl (Ctr.pick (by repeat' first | exact Pick.here | apply Pick.skip | apply Pick.app) (c4 t _))) ?_; rintro _ _ ⟨A2, c2', rfl, hA2, rfl⟩
  refine GO_q rfl rfl (ev_assign rfl) ?_
  refine GO_q rfl rfl (ev_assign rfl) ?_
  refine GO_nil ?_
  obtain ⟨ab, rfl⟩ := hA (by decide)
  obtain ⟨ab2, rfl⟩ := hA2 (by decide)
  have y1 := ld_owns (ab := ab) (c := c) (k := 0) (l := [1, 2]) (x := 1) rfl
  have y2 := ld_owns (ab := ab) (c := c) (k := 1) (l := [1, 2]) (x := 2) rfl
  have y3 := ld_owns (ab := ab2) (c := c2') (k := 0) (l := [2]) (x := 2) rfl
  (repeat first | refine G_seq ?_ | refine G_skip ?_ | refine G_endblk ?_ | refine G_block ?_ | refine G_exit rfl ?_)
  refine G_region ?_
  refine GO_q rfl rfl (ev_move rfl) ?_
  refine GO_q rfl rfl (ev_eql rfl rfl) ?_
  refine GO_q rfl rfl (ev_move rfl) ?_
  refine GO_yes rfl rfl rfl rfl ?_
  refine GO_q rfl rfl (ev_move rfl) ?_
  refine GO_yes rfl rfl rfl rfl ?_
  refine GO_q rfl rfl (ev_eql rfl rfl) ?_
  refine GO_q rfl rfl (ev_pick_t rfl rfl rfl) ?_
  refine GO_q rfl rfl (ev_move rfl) ?_
  refine GO_yes rfl rfl rfl rfl ?_
  refine GO_q rfl rfl (ev_move rfl) ?_
  refine GO_yes rfl rfl rfl rfl ?_
  refine GO_q rfl rfl (ev_eql rfl rfl) ?_
  refine GO_q rfl rfl (ev_pick_t rfl rfl rfl) ?_
  refine GO_q rfl rfl (ev_move rfl) ?_
  refine GO_yes rfl rfl rfl rfl ?_
  refine GO_q rfl rfl (ev_move rfl) ?_
  refine GO_yes rfl rfl rfl rfl ?_
  refine GO_q rfl rfl (ev_len rfl) ?_
  refine GO_yes rfl rfl rfl rfl ?_
  refine GO_q rfl rfl (ev_eql rfl rfl) ?_
  refine GO_q rfl rfl (ev_pick_t rfl rfl rfl) ?_
  refine GO_q rfl rfl (ev_move rfl) ?_
  refine GO_yes rfl rfl rfl rfl ?_
  refine GO_q rfl rfl (ev_move rfl) ?_
  refine GO_yes rfl rfl rfl rfl ?_
  (first | refine GO_q rfl rfl (ev_indexAddrN rfl rfl (by first | omega | (simp; done) | (simp; omega))) ?_ | refine GO_q rfl rfl (ev_indexAddr rfl rfl (by first | omega | (simp; done) | (simp; omega)) (by first | omega | (simp; done) | (simp; omega))) ?_)
  refine GO_yes rfl rfl rfl rfl ?_
  refine GO_q rfl rfl (ev_load rfl (by repeat' first | exact y1 _ | apply Ld.skip)) ?_
  refine GO_yes rfl rfl rfl rfl ?_
  refine GO_q rfl rfl (ev_eql rfl rfl) ?_
  refine GO_q rfl rfl (ev_pick_t rfl rfl rfl) ?_
  refine GO_q rfl rfl (ev_move rfl) ?_
  refine GO_yes rfl rfl rfl rfl ?_
  refine GO_q rfl rfl (ev_move rfl) ?_
  refine GO_yes rfl rfl rfl rfl ?_
  (first | refine GO_q rfl rfl (ev_indexAddrN rfl rfl (by first | omega | (simp; done) | (simp; omega))) ?_ | refine GO_q rfl rfl (ev_indexAddr rfl rfl (by first | omega | (simp; done) | (simp; omega)) (by first | omega | (simp; done) | (simp; omega))) ?_)
  refine GO_yes rfl rfl rfl rfl ?_
  refine GO_q rfl rfl (ev_load rfl (by repeat' first | exact y2 _ | apply Ld.skip)) ?_
  refine GO_yes rfl rfl rfl rfl ?_
  refine GO_q rfl rfl (ev_eql rfl rfl) ?_
  refine GO_q rfl rfl (ev_pick_t rfl rfl rfl) ?_
  refine GO_q rfl rfl (ev_move rfl) ?_
  refine GO_yes rfl rfl rfl rfl ?_
  refine GO_q rfl rfl (ev_move rfl) ?_
  refine GO_yes rfl rfl rfl rfl ?_
  refine GO_q rfl rfl (ev_len rfl) ?_
  refine GO_yes rfl rfl rfl rfl ?_
  refine GO_q rfl rfl (ev_eql rfl rfl) ?_
  refine GO_q rfl rfl (ev_pick_t rfl rfl rfl) ?_
  refine GO_q rfl rfl (ev_move rfl) ?_
  refine GO_yes rfl rfl rfl rfl ?_
  refine GO_q rfl rfl (ev_move rfl) ?_
  refine GO_yes rfl rfl rfl rfl ?_
  (first | refine GO_q rfl rfl (ev_indexAddrN rfl rfl (by first | omega | (simp; done) | (simp; omega))) ?_ | refine GO_q rfl rfl (ev_indexAddr rfl rfl (by first | omega | (simp; done) | (simp; omega)) (by first | omega | (simp; done) | (simp; omega))) ?_)
  refine GO_yes rfl rfl rfl rfl ?_
  refine GO_q rfl rfl (ev_load rfl (by repeat' first | exact y3 _ | apply Ld.skip)) ?_
  refine GO_yes rfl rfl rfl rfl ?_
  refine GO_q rfl rfl (ev_eql rfl rfl) ?_
  refine GO_q rfl rfl (ev_pick_t rfl rfl rfl) ?_
  refine GO_q rfl rfl (ev_move rfl) ?_
  refine GO_yes rfl rfl rfl rfl ?_
  refine GO_q rfl rfl (ev_move rfl) ?_
  refine GO_yes rfl rfl rfl rfl ?_
  refine GO_eff rfl rfl (eff_call rfl (Ctr.pick (by repeat' first | exact Pick.here | apply Pick.skip | apply Pick.app) (c5 t _))) ?_; rintro _ _ ⟨rfl, rfl⟩
  refine GO_q rfl rfl (ev_pick_t rfl rfl rfl) ?_
  refine GO_q rfl rfl (ev_assign rfl) ?_
  refine GO_nil ?_
  (repeat first | refine G_seq ?_ | refine G_skip ?_ | refine G_endblk ?_ | refine G_block ?_ | refine G_exit rfl ?_)
  exact G_ret (L' := [] ++ L) rfl (.tmp rfl .nil) (by (repeat first | exact fun _ s => s | apply en_keep | apply en_drop | apply en_app) <;> fail) ⟨rfl, [], rfl⟩
end Go.Proofs.YtjnmpogolknkpaaGreat
/- From a contract to what a law's row asks. -/
namespace Go.Proofs.YtjnmpogolknkpaaGreat
open Go.RowKit
set_option linter.unusedVariables false

/-- A law that holds by its contract: it returns true, and nothing old has turned. -/
theorem law_of_ctr {P : Program} {f : FuncId} {args : Array Value} {w : World} (h : Ctr P f args [old w.hm] fun v L' => v = .bool true ∧ L' = [old w.hm]) :
    Calls P f args w fun e w' => e = .returned (.bool true) ∧ Below w.heap.size w w' := by
  refine (calls_of h (Hp.start w)).mono fun e w' ⟨v, L', e1, ⟨e2, e3⟩, hw'⟩ => ?_
  subst e2 e3
  exact ⟨e1, hw'.below⟩
/-- What a slice of numbers reads as. -/
theorem rc_of_reads {w : World} {sz : Nat} {A : Option Addr} {n : Nat} {xs : List Value} (hsz : 0 < sz) (h : Reads w sz A n xs) : Rc [old w.hm] sz A n xs := by
  refine ⟨h.1, fun h0 => ?_⟩
  obtain ⟨b, o, rfl, hb, hc⟩ := h.2 (Nat.mul_pos h0 hsz)
  refine ⟨b, o, rfl, fun j v hj => Ld.old ?_⟩
  obtain ⟨h1, rfl⟩ := List.getElem?_eq_some_iff.1 hj
  exact hc j h1
end Go.Proofs.YtjnmpogolknkpaaGreat
/- Acts that came in. -/
namespace Go.Proofs.YtjnmpogolknkpaaGreat
theorem acts_of : ∀ (n : Nat) (ns : List Int), ns.length = n * 5 → Ints ns → ∃ l : List Ac, flat l = ints ns ∧ ∀ a ∈ l, a.at_ ≤ 9223372036854775807
  | 0, ns, h, _ => ⟨[], by
    have : ns = [] := List.eq_nil_of_length_eq_zero (by simpa using h)
    subst this; rfl, by simp⟩
  | n + 1, a :: b :: c :: d :: e :: ns, h, hb => by
    obtain ⟨l, hl, hk⟩ := acts_of n ns (by simp at h; omega) (fun x hx => hb x (by simp [hx]))
    refine ⟨⟨a, b, ⟨c, d, e⟩⟩ :: l, by rw [flat_cons, hl]; rfl, fun u hu => ?_⟩
    rcases List.mem_cons.1 hu with rfl | hu
    · exact (hb b (by simp)).2
    · exact hk u hu
  | n + 1, [], h, _ => by simp at h
  | n + 1, [_], h, _ => by simp at h; omega
  | n + 1, [_, _], h, _ => by simp at h; omega
  | n + 1, [_, _, _], h, _ => by simp at h; omega
  | n + 1, [_, _, _, _], h, _ => by simp at h; omega
theorem rd_acts {w : World} {A : Option Addr} {n : Nat} {ns : List Int} (h : Reads w 5 A n (ints ns)) (hb : Ints ns) : ∃ l : List Ac, Rd [old w.hm] A n l ∧ ∀ a ∈ l, a.at_ ≤ 9223372036854775807 := by
  obtain ⟨l, hl, hk⟩ := acts_of n ns (by simpa [ints] using h.1) hb
  refine ⟨l, ?_, hk⟩
  unfold Rd
  rw [hl]
  exact rc_of_reads (by decide) h
end Go.Proofs.YtjnmpogolknkpaaGreat
/- A tree of middles, and the references' set, laid open. -/
namespace Go.Proofs.YtjnmpogolknkpaaGreat
set_option linter.unusedVariables false
set_option linter.unusedSimpArgs false

theorem LdN.sub' {L : List HP} {b o n : Nat} {vs ws : List Value} (h : LdN L b o n vs) (k m : Nat) (e : takeE (dropE vs k) m = some ws) : LdN L b (o + k) m ws :=
  ⟨(takeE_get e).1, fun j v hj => by
    have h1 := (takeE_get e).2 j v hj
    rw [dropE_eq, List.getElem?_drop] at h1
    rw [Nat.add_assoc]
    exact h.2 _ _ h1⟩
theorem seti_open {b : Nat} {most : Int} {k : List Pt} {M : List HP} {hm : Hm} (h : sat (setI b most k :: M) hm) : ∃ A c, AdOk A c k ∧ sat (blk b 39 [.slice A k.length c, .int .i64 most] :: own 24 3 A k.length c (flat k) :: M) hm := by
  obtain ⟨h1, h2, d, s1, s2, ⟨⟨A, c⟩, o, q⟩, t⟩ := h
  exact ⟨A, c, o, sat.head (A := fun h => h = h1) (N := setZ b most k (A, c)) (fun _ e => e ▸ q) ⟨h1, h2, d, s1, s2, rfl, t⟩⟩
theorem treei_open {t : Nat} {most : Int} {k : List Pt} {M : List HP} {hm : Hm} (h : sat (treeI t most k :: M) hm) : ∃ T, treeO k T ∧ sat (blk t 75 [.pointer T.addr, .int .i64 most] :: itH T :: M) hm := by
  obtain ⟨h1, h2, d, s1, s2, ⟨T, o, q⟩, t'⟩ := h
  exact ⟨T, o, sat.head (A := fun h => h = h1) (N := treeZ t most T) (fun _ e => e ▸ q) ⟨h1, h2, d, s1, s2, rfl, t'⟩⟩
theorem idoes_open (t b : Nat) (most : Int) (k : List Pt) (L : List HP) (a : Ac) (hk : k.length ≤ 999) (ha : a.at_ ≤ 9223372036854775807) :
    Ctr Tryz.prog 22 #[.pointer (some ⟨t, 0, none⟩), .pointer (some ⟨b, 0, none⟩), .agg #[.int .i64 a.kind, .int .i64 a.at_, .int .i64 a.p.id, .int .i64 a.p.x, .int .i64 a.p.y]] (treeI t most k :: setI b most k :: L) fun v L' => ∃ A c, v = .bool true ∧ AdOk A c (actK most k a) ∧ L' = treeI t most (actK most k a) :: blk b 39 [.slice A (actK most k a).length c, .int .i64 most] :: own 24 3 A (actK most k a).length c (flat (actK most k a)) :: L :=
  (idoes_ctr t b most k L a hk ha).post' fun v L' hm ⟨e1, e2⟩ q => by
    subst e2
    obtain ⟨A, c, o, q2⟩ := seti_open q.swap
    refine ⟨_, ⟨A, c, e1, o, rfl⟩, ?_⟩
    exact q2.perm (List.perm_middle (l₁ := [blk b 39 [.slice A (actK most k a).length c, .int .i64 most], own 24 3 A (actK most k a).length c (flat (actK most k a))]))
end Go.Proofs.YtjnmpogolknkpaaGreat
/- The law ItreeLine. -/
namespace Go.Proofs.YtjnmpogolknkpaaGreat
attribute [local irreducible] sat
open Go.RowKit
set_option linter.unusedVariables false
set_option linter.unusedSimpArgs false
set_option maxRecDepth 100000

instance : IntK Tryz.prog 5 .u8 := ⟨by kernel_rfl⟩
instance : IntK Tryz.prog 3 .i64 := ⟨by kernel_rfl⟩
def liP (k i : Nat) : Pt := match k with | 0 => ⟨(i : Int), 3 * (i : Int), 3 * (i : Int) + 1⟩ | 1 => ⟨(i : Int), 0 - (i : Int), (i : Int)⟩ | _ => ⟨(i : Int), -2 * (i : Int), -2 * (i : Int) + 3⟩
theorem liP_id (k i : Nat) : (liP k i).id = (i : Int) := by unfold liP; split <;> rfl
theorem liP_in (k i : Nat) (h1 : 1 ≤ i) (h : i ≤ 100) : -300 ≤ (liP k i).x ∧ (liP k i).x ≤ (liP k i).y ∧ (liP k i).y ≤ 301 := by
  unfold liP
  split <;> simp only <;> omega
theorem liP_inj {k i j : Nat} (h : liP k i = liP k j) : i = j := by
  have := congrArg Pt.id h
  rw [liP_id, liP_id] at this
  omega
/-- From the one behind a on, so many. -/
def seg (k a : Nat) : Nat → List Pt
  | 0 => []
  | m + 1 => seg k a m ++ [liP k (a + m + 1)]
theorem seg_len (k a : Nat) : ∀ m, (seg k a m).length = m
  | 0 => rfl
  | m + 1 => by rw [seg, List.length_append, seg_len k a m]; rfl
theorem seg_mem {k a : Nat} {p : Pt} : ∀ {m : Nat}, p ∈ seg k a m → ∃ j : Nat, a < j ∧ j ≤ a + m ∧ p = liP k j
  | 0, h => by cases h
  | m + 1, h => by
    rcases List.mem_append.1 h with h | h
    · obtain ⟨j, h1, h2, h3⟩ := seg_mem h
      exact ⟨j, h1, by omega, h3⟩
    · exact ⟨a + m + 1, by omega, by omega, by simpa using h⟩
theorem seg_head (k : Nat) : ∀ (m a : Nat), seg k a (m + 1) = liP k (a + 1) :: seg k (a + 1) m
  | 0, a => rfl
  | m + 1, a => by
    have e : liP k (a + (m + 1) + 1) = liP k (a + 1 + m + 1) := by congr 1; omega
    show seg k a (m + 1) ++ [liP k (a + (m + 1) + 1)] = liP k (a + 1) :: (seg k (a + 1) m ++ [liP k (a + 1 + m + 1)])
    rw [seg_head k m a, e]; rfl
theorem li_fair (k i : Nat) (h1 : 1 ≤ i) (h : i ≤ 100) : fairP (liP k i) = true := by
  have := liP_in k i h1 h
  have := liP_id k i
  simp only [fairP, goodId, good, Bool.and_eq_true, decide_eq_true_eq]
  omega
theorem seg_ins (k m : Nat) (h : m + 1 ≤ 100) : insE 300 (seg k 0 m) (liP k (m + 1)) = 0 ∧ insK 300 (seg k 0 m) (liP k (m + 1)) = seg k 0 (m + 1) := by
  have h1 : insE 300 (seg k 0 m) (liP k (m + 1)) = 0 := by
    unfold insE
    rw [if_neg (by rw [li_fair k (m + 1) (by omega) h]; simp), if_neg (fun hm => ?_), if_neg (by rw [seg_len]; omega)]
    obtain ⟨j, a, b, c⟩ := seg_mem hm
    have := liP_inj c
    omega
  refine ⟨h1, ?_⟩
  unfold insK
  rw [if_pos h1]
  show _ = seg k 0 m ++ [liP k (0 + m + 1)]
  rw [Nat.zero_add]
theorem seg_over (k m : Nat) (h : m ≤ 100) : (overK (seg k 0 m) (-400) 400).length = m := by
  unfold overK idsOf
  rw [srt_length, List.length_map, List.filter_eq_self.2, seg_len]
  intro p hp
  obtain ⟨j, a, b, c⟩ := seg_mem hp
  have := liP_in k j (by omega) (by omega)
  subst c
  exact decide_eq_true (by omega)
/-- Where what is left begins, and what goes next. -/
def lft (r : Bool) (i : Nat) : Nat := if r then 0 else i
def nxtI (r : Bool) (many i : Nat) : Nat := if r then many + 1 - i else i
theorem lft_del (r : Bool) (k many i m : Nat) (h1 : i + m + 1 = many) : delE (seg k (lft r i) (m + 1)) (liP k (nxtI r many (i + 1))) = 0 ∧ (seg k (lft r i) (m + 1)).erase (liP k (nxtI r many (i + 1))) = seg k (lft r (i + 1)) m := by
  cases r with
  | false =>
    have e : nxtI false many (i + 1) = i + 1 := rfl
    have e2 : seg k (lft false i) (m + 1) = liP k (i + 1) :: seg k (i + 1) m := seg_head k m i
    rw [e, e2]
    exact ⟨if_pos (List.mem_cons_self ..), List.erase_cons_head ..⟩
  | true =>
    have e : nxtI true many (i + 1) = m + 1 := by simp [nxtI]; omega
    have e2 : seg k (lft true i) (m + 1) = seg k 0 m ++ [liP k (m + 1)] := by
      show seg k 0 m ++ [liP k (0 + m + 1)] = _
      rw [Nat.zero_add]
    have hn : liP k (m + 1) ∉ seg k 0 m := fun hm => by
      obtain ⟨j, a, b, c⟩ := seg_mem hm
      have := liP_inj c
      omega
    rw [e, e2]
    refine ⟨if_pos (by simp), ?_⟩
    rw [List.erase_append_right _ hn, List.erase_cons_head, List.append_nil]
    rfl
theorem line_ctr (i kind k : Nat) (hi : i ≤ 1000) (hk : kind % 3 = k) (L : List HP) : Ctr Tryz.prog 27 #[.int .i64 (i : Nat), .int .u8 (kind : Int)] L fun v L' => v = (liP k i).v ∧ L' = L := by
  have h3 : k = 0 ∨ k = 1 ∨ k = 2 := by omega
  rcases h3 with rfl | rfl | rfl
  · skip
    refine Ctr_of (fn := Tryz.f27) (n := 30) Tryz.func27 rfl rfl rfl ?_
    intro g F
    (repeat first | refine G_seq ?_ | refine G_skip ?_ | refine G_endblk ?_ | refine G_block ?_ | refine G_exit rfl ?_)
    refine G_region ?_
    refine GO_eff rfl rfl eff_alloc ?_; rintro _ _ ⟨b4, rfl, rfl⟩
    refine GO_nil ?_
    (repeat first | refine G_seq ?_ | refine G_skip ?_ | refine G_endblk ?_ | refine G_block ?_ | refine G_exit rfl ?_)
    refine G_region ?_
    refine GO_q rfl rfl (ev_move rfl) ?_
    refine GO_q rfl rfl (ev_remK (q := 3) rfl rfl (by decide)) ?_
    refine GO_q rfl rfl (ev_eql rfl rfl) ?_
    refine GO_nil ?_
    rw [hk]
    (repeat first | refine G_seq ?_ | refine G_skip ?_ | refine G_endblk ?_ | refine G_block ?_ | refine G_exit rfl ?_)
    refine G_cond_t rfl rfl ?_
    (repeat first | refine G_seq ?_ | refine G_skip ?_ | refine G_endblk ?_ | refine G_block ?_ | refine G_exit rfl ?_)
    refine G_region ?_
    refine GO_q rfl rfl (ev_move rfl) ?_
    refine GO_q rfl rfl (ev_move rfl) ?_
    refine GO_q rfl rfl (ev_mul (p := 3) (q := (i : Int)) rfl rfl (by omega)) ?_
    refine GO_q rfl rfl (ev_move rfl) ?_
    refine GO_q rfl rfl (ev_mul (p := 3) (q := (i : Int)) rfl rfl (by omega)) ?_
    refine GO_q rfl rfl (ev_add (p := 3 * (i : Int)) (q := 1) rfl rfl (by omega)) ?_
    refine GO_q rfl rfl (ev_build rfl rfl) ?_
    refine GO_eff rfl rfl (eff_storeN rfl rfl rfl rfl (by repeat' first | exact Upd.here rfl | apply Upd.skip | apply Upd.app)) ?_; rintro _ _ ⟨rfl, rfl⟩
    refine GO_nil ?_
    (repeat first | refine G_seq ?_ | refine G_skip ?_ | refine G_endblk ?_ | refine G_block ?_ | refine G_exit rfl ?_)
    refine G_ret rfl (.cell rfl (loadN_run (by repeat' first | exact LdN.blk rfl | assumption | apply LdN.skip | apply LdN.app)) .nil) (by (repeat first | exact fun _ s => s | apply en_keep | apply en_drop | apply en_app) <;> fail) ⟨rfl, rfl⟩
  · skip
    refine Ctr_of (fn := Tryz.f27) (n := 30) Tryz.func27 rfl rfl rfl ?_
    intro g F
    (repeat first | refine G_seq ?_ | refine G_skip ?_ | refine G_endblk ?_ | refine G_block ?_ | refine G_exit rfl ?_)
    refine G_region ?_
    refine GO_eff rfl rfl eff_alloc ?_; rintro _ _ ⟨b4, rfl, rfl⟩
    refine GO_nil ?_
    (repeat first | refine G_seq ?_ | refine G_skip ?_ | refine G_endblk ?_ | refine G_block ?_ | refine G_exit rfl ?_)
    refine G_region ?_
    refine GO_q rfl rfl (ev_move rfl) ?_
    refine GO_q rfl rfl (ev_remK (q := 3) rfl rfl (by decide)) ?_
    refine GO_q rfl rfl (ev_eql rfl rfl) ?_
    refine GO_nil ?_
    rw [hk]
    (repeat first | refine G_seq ?_ | refine G_skip ?_ | refine G_endblk ?_ | refine G_block ?_ | refine G_exit rfl ?_)
    refine G_cond_f rfl rfl ?_
    (repeat first | refine G_seq ?_ | refine G_skip ?_ | refine G_endblk ?_ | refine G_block ?_ | refine G_exit rfl ?_)
    refine G_region ?_
    refine GO_q rfl rfl (ev_move rfl) ?_
    refine GO_q rfl rfl (ev_remK (q := 3) rfl rfl (by decide)) ?_
    refine GO_q rfl rfl (ev_eql rfl rfl) ?_
    refine GO_nil ?_
    rw [hk]
    (repeat first | refine G_seq ?_ | refine G_skip ?_ | refine G_endblk ?_ | refine G_block ?_ | refine G_exit rfl ?_)
    refine G_cond_t rfl rfl ?_
    (repeat first | refine G_seq ?_ | refine G_skip ?_ | refine G_endblk ?_ | refine G_block ?_ | refine G_exit rfl ?_)
    refine G_region ?_
    refine GO_q rfl rfl (ev_move rfl) ?_
    refine GO_q rfl rfl (ev_move rfl) ?_
    refine GO_q rfl rfl (ev_neg rfl (by first | omega | (simp; done) | (simp; omega))) ?_
    refine GO_q rfl rfl (ev_move rfl) ?_
    refine GO_q rfl rfl (ev_build rfl rfl) ?_
    refine GO_eff rfl rfl (eff_storeN rfl rfl rfl rfl (by repeat' first | exact Upd.here rfl | apply Upd.skip | apply Upd.app)) ?_; rintro _ _ ⟨rfl, rfl⟩
    refine GO_nil ?_
    (repeat first | refine G_seq ?_ | refine G_skip ?_ | refine G_endblk ?_ | refine G_block ?_ | refine G_exit rfl ?_)
    refine G_ret rfl (.cell rfl (loadN_run (by repeat' first | exact LdN.blk rfl | assumption | apply LdN.skip | apply LdN.app)) .nil) (by (repeat first | exact fun _ s => s | apply en_keep | apply en_drop | apply en_app) <;> fail) ⟨rfl, rfl⟩
  · skip
    refine Ctr_of (fn := Tryz.f27) (n := 30) Tryz.func27 rfl rfl rfl ?_
    intro g F
    (repeat first | refine G_seq ?_ | refine G_skip ?_ | refine G_endblk ?_ | refine G_block ?_ | refine G_exit rfl ?_)
    refine G_region ?_
    refine GO_eff rfl rfl eff_alloc ?_; rintro _ _ ⟨b4, rfl, rfl⟩
    refine GO_nil ?_
    (repeat first | refine G_seq ?_ | refine G_skip ?_ | refine G_endblk ?_ | refine G_block ?_ | refine G_exit rfl ?_)
    refine G_region ?_
    refine GO_q rfl rfl (ev_move rfl) ?_
    refine GO_q rfl rfl (ev_remK (q := 3) rfl rfl (by decide)) ?_
    refine GO_q rfl rfl (ev_eql rfl rfl) ?_
    refine GO_nil ?_
    rw [hk]
    (repeat first | refine G_seq ?_ | refine G_skip ?_ | refine G_endblk ?_ | refine G_block ?_ | refine G_exit rfl ?_)
    refine G_cond_f rfl rfl ?_
    (repeat first | refine G_seq ?_ | refine G_skip ?_ | refine G_endblk ?_ | refine G_block ?_ | refine G_exit rfl ?_)
    refine G_region ?_
    refine GO_q rfl rfl (ev_move rfl) ?_
    refine GO_q rfl rfl (ev_remK (q := 3) rfl rfl (by decide)) ?_
    refine GO_q rfl rfl (ev_eql rfl rfl) ?_
    refine GO_nil ?_
    rw [hk]
    (repeat first | refine G_seq ?_ | refine G_skip ?_ | refine G_endblk ?_ | refine G_block ?_ | refine G_exit rfl ?_)
    refine G_cond_f rfl rfl ?_
    (repeat first | refine G_seq ?_ | refine G_skip ?_ | refine G_endblk ?_ | refine G_block ?_ | refine G_exit rfl ?_)
    refine G_region ?_
    refine GO_q rfl rfl (ev_move rfl) ?_
    refine GO_q rfl rfl (ev_move rfl) ?_
    refine GO_q rfl rfl (ev_mul (p := -2) (q := (i : Int)) rfl rfl (by omega)) ?_
    refine GO_q rfl rfl (ev_move rfl) ?_
    refine GO_q rfl rfl (ev_mul (p := -2) (q := (i : Int)) rfl rfl (by omega)) ?_
    refine GO_q rfl rfl (ev_add (p := -2 * (i : Int)) (q := 3) rfl rfl (by omega)) ?_
    refine GO_q rfl rfl (ev_build rfl rfl) ?_
    refine GO_eff rfl rfl (eff_storeN rfl rfl rfl rfl (by repeat' first | exact Upd.here rfl | apply Upd.skip | apply Upd.app)) ?_; rintro _ _ ⟨rfl, rfl⟩
    refine GO_nil ?_
    (repeat first | refine G_seq ?_ | refine G_skip ?_ | refine G_endblk ?_ | refine G_block ?_ | refine G_exit rfl ?_)
    refine G_ret rfl (.cell rfl (loadN_run (by repeat' first | exact LdN.blk rfl | assumption | apply LdN.skip | apply LdN.app)) .nil) (by (repeat first | exact fun _ s => s | apply en_keep | apply en_drop | apply en_app) <;> fail) ⟨rfl, rfl⟩
theorem IRoot0_ctr (t : Nat) (most : Int) (L : List HP) : Ctr Tryz.prog 28 #[.pointer (some ⟨t, 0, none⟩)] (treeI t most [] :: L) fun r L' => r = .pointer none ∧ L' = treeI t most [] :: L :=
  Ctr.tree0 (R := fun r => r = .pointer none) fun T L' o q h => by
    have e : T.addr = none := o.addr.2 (by rw [o.size, q.length_eq]; rfl)
    rw [← e]
    exact iRoot_ctr h
theorem ItreeLine_ctr (n kind : Nat) (hn : n ≤ 255) (hk : kind ≤ 255) (L : List HP) : Ctr Tryz.prog 5 #[.int .u8 (n : Int), .int .u8 (kind : Int)] L fun v L' => v = .bool true ∧ L' = L := by
  obtain ⟨many, hmany⟩ : ∃ m, n % 100 = m := ⟨_, rfl⟩
  have hm : many ≤ 99 := by omega
  obtain ⟨k, hkk⟩ : ∃ k, kind % 3 = k := ⟨_, rfl⟩
  obtain ⟨r, hr⟩ : ∃ r, decide (128 ≤ (kind : Int)) = r := ⟨_, rfl⟩
  have hli := fun i L h => line_ctr i kind k h hkk L
  refine Ctr_of (fn := Tryz.f5) (n := 93) Tryz.func5 rfl rfl rfl ?_
  intro g F
  (repeat first | refine G_seq ?_ | refine G_skip ?_ | refine G_endblk ?_ | refine G_block ?_ | refine G_exit rfl ?_)
  refine G_region ?_
  refine GO_q rfl rfl (ev_assign rfl) ?_
  refine GO_nil ?_
  (repeat first | refine G_seq ?_ | refine G_skip ?_ | refine G_endblk ?_ | refine G_block ?_ | refine G_exit rfl ?_)
  refine G_region ?_
  refine GO_eff rfl rfl (eff_call rfl (iNew_ctr 300 _ (by decide) (by decide))) ?_; rintro _ _ ⟨t, rfl, rfl⟩
  refine GO_q rfl rfl (ev_move rfl) ?_
  refine GO_q rfl rfl (ev_extract rfl rfl) ?_
  refine GO_q rfl rfl (ev_extract rfl rfl) ?_
  refine GO_q rfl rfl (ev_assign rfl) ?_
  refine GO_q rfl rfl (ev_assign rfl) ?_
  refine GO_nil ?_
  (repeat first | refine G_seq ?_ | refine G_skip ?_ | refine G_endblk ?_ | refine G_block ?_ | refine G_exit rfl ?_)
  refine G_region ?_
  refine GO_q rfl rfl (ev_move rfl) ?_
  (first | refine GO_q rfl rfl (ev_eqlNil rfl rfl) ?_ | refine GO_q rfl rfl (ev_eqlPtr rfl rfl) ?_)
  refine GO_q rfl rfl (ev_move rfl) ?_
  refine GO_yes rfl rfl rfl rfl ?_
  refine GO_q rfl rfl (ev_move rfl) ?_
  refine GO_yes rfl rfl rfl rfl ?_
  refine GO_q rfl rfl (ev_neq rfl rfl) ?_
  refine GO_q rfl rfl (ev_pick_f rfl rfl rfl) ?_
  refine GO_nil ?_
  (repeat first | refine G_seq ?_ | refine G_skip ?_ | refine G_endblk ?_ | refine G_block ?_ | refine G_exit rfl ?_)
  refine G_cond_f rfl rfl ?_
  (repeat first | refine G_seq ?_ | refine G_skip ?_ | refine G_endblk ?_ | refine G_block ?_ | refine G_exit rfl ?_)
  refine G_region ?_
  refine GO_q rfl rfl (ev_move rfl) ?_
  refine GO_q rfl rfl (ev_remK (q := 100) rfl rfl (by decide)) ?_
  refine GO_q rfl rfl (ev_convU rfl (by omega)) ?_
  refine GO_q rfl rfl (ev_assign rfl) ?_
  refine GO_nil ?_
  rw [hmany]
  (repeat first | refine G_seq ?_ | refine G_skip ?_ | refine G_endblk ?_ | refine G_block ?_ | refine G_exit rfl ?_)
  refine G_region ?_
  refine GO_q rfl rfl (ev_assign rfl) ?_
  refine GO_nil ?_
  (repeat first | refine G_seq ?_ | refine G_skip ?_ | refine G_endblk ?_)
  refine G_cut (ι := Unit) (fun _ => [(0, .int .u8 (n : Int)), (1, .int .u8 (kind : Int)), (5, .pointer (some ⟨t, 0, none⟩)), (7, .int .i64 (many : Int))]) (fun _ => treeI t 300 (seg k 0 many) :: F :: L) (fun _ => True) ?_ ?_
  · (repeat first | refine G_seq ?_ | refine G_skip ?_ | refine G_endblk ?_ | refine G_block ?_ | refine G_exit rfl ?_)
    refine G_loop (ι := Nat) (fun m => [(0, .int .u8 (n : Int)), (1, .int .u8 (kind : Int)), (5, .pointer (some ⟨t, 0, none⟩)), (7, .int .i64 (many : Int)), (8, .int .i64 ((m + 1 : Nat) : Int))]) (fun m => treeI t 300 (seg k 0 m) :: F :: L) (fun m => m ≤ many) (fun m => many - m) 0 (Nat.zero_le _) ⟨rfl, rfl, rfl, rfl, rfl, trivial⟩ (by (repeat first | exact en_refl | (apply en_blk; focus ((repeat' first | exact Pick.here | apply Pick.skip | apply Pick.app); done); focus rfl) | (apply en_own; focus ((repeat' first | exact Pick.here | apply Pick.skip | apply Pick.app); done); focus rfl) | (apply en_pick; focus ((repeat' first | exact Pick.here | apply Pick.skip | apply Pick.app); done)) | apply en_drop | apply en_app) <;> fail) ?_
    intro m hmm
    by_cases c1 : m < many
    · obtain ⟨i1, i2⟩ := seg_ins k m (by omega)
      have hP := fun L h => IInsert_ctr t 300 (seg k 0 m) (liP k (m + 1)) L h
      rw [i1, i2] at hP
      (repeat first | refine G_seq ?_ | refine G_skip ?_ | refine G_endblk ?_ | refine G_block ?_ | refine G_exit rfl ?_)
      refine G_region ?_
      refine GO_q rfl rfl (ev_move rfl) ?_
      refine GO_q rfl rfl (ev_move rfl) ?_
      refine GO_q rfl rfl (ev_leq rfl rfl) ?_
      refine GO_nil ?_
      (repeat first | refine G_seq ?_ | refine G_skip ?_ | refine G_endblk ?_ | refine G_block ?_ | refine G_exit rfl ?_)
      refine G_cond_t rfl (decide_eq_true (by omega)) ?_
      (repeat first | refine G_seq ?_ | refine G_skip ?_ | refine G_endblk ?_ | refine G_block ?_ | refine G_exit rfl ?_)
      refine G_region ?_
      refine GO_q rfl rfl (ev_move rfl) ?_
      refine GO_q rfl rfl (ev_move rfl) ?_
      refine GO_q rfl rfl (ev_move rfl) ?_
      refine GO_eff rfl rfl (eff_call rfl (hli (m + 1) _ (by omega))) ?_; rintro _ _ ⟨rfl, rfl⟩
      refine GO_eff rfl rfl (eff_call rfl (Ctr.pick (by repeat' first | exact Pick.here | apply Pick.skip | apply Pick.app) (hP _ (by rw [seg_len]; omega)))) ?_; rintro _ _ ⟨rfl, rfl⟩
      refine GO_q rfl rfl (ev_neq rfl rfl) ?_
      refine GO_nil ?_
      (repeat first | refine G_seq ?_ | refine G_skip ?_ | refine G_endblk ?_ | refine G_block ?_ | refine G_exit rfl ?_)
      refine G_cond_f rfl rfl ?_
      (repeat first | refine G_seq ?_ | refine G_skip ?_ | refine G_endblk ?_ | refine G_block ?_ | refine G_exit rfl ?_)
      refine G_region ?_
      refine GO_q rfl rfl (ev_move rfl) ?_
      (first | refine GO_q rfl rfl (ev_addN (q := 1) rfl rfl (by first | omega | (simp; done) | (simp; omega))) ?_ | refine GO_q rfl rfl (ev_add rfl rfl (by first | omega | (simp; done) | (simp; omega))) ?_)
      refine GO_q rfl rfl (ev_assign rfl) ?_
      refine GO_nil ?_
      (repeat first | refine G_seq ?_ | refine G_skip ?_ | refine G_endblk ?_ | refine G_block ?_ | refine G_exit rfl ?_)
      exact G_round (m + 1) (by omega) (by omega) ⟨rfl, rfl, rfl, rfl, rfl, trivial⟩ (by (repeat first | exact en_refl | (apply en_blk; focus ((repeat' first | exact Pick.here | apply Pick.skip | apply Pick.app); done); focus rfl) | (apply en_own; focus ((repeat' first | exact Pick.here | apply Pick.skip | apply Pick.app); done); focus rfl) | (apply en_pick; focus ((repeat' first | exact Pick.here | apply Pick.skip | apply Pick.app); done)) | apply en_drop | apply en_app) <;> fail)
    · have e : m = many := by omega
      subst e
      (repeat first | refine G_seq ?_ | refine G_skip ?_ | refine G_endblk ?_ | refine G_block ?_ | refine G_exit rfl ?_)
      refine G_region ?_
      refine GO_q rfl rfl (ev_move rfl) ?_
      refine GO_q rfl rfl (ev_move rfl) ?_
      refine GO_q rfl rfl (ev_leq rfl rfl) ?_
      refine GO_nil ?_
      (repeat first | refine G_seq ?_ | refine G_skip ?_ | refine G_endblk ?_ | refine G_block ?_ | refine G_exit rfl ?_)
      refine G_cond_f rfl (decide_eq_false (by omega)) ?_
      (repeat first | refine G_seq ?_ | refine G_skip ?_ | refine G_endblk ?_ | refine G_block ?_ | refine G_exit rfl ?_)
      exact G_inv () trivial ⟨rfl, rfl, rfl, rfl, trivial⟩ (by (repeat first | exact en_refl | (apply en_blk; focus ((repeat' first | exact Pick.here | apply Pick.skip | apply Pick.app); done); focus rfl) | (apply en_own; focus ((repeat' first | exact Pick.here | apply Pick.skip | apply Pick.app); done); focus rfl) | (apply en_pick; focus ((repeat' first | exact Pick.here | apply Pick.skip | apply Pick.app); done)) | apply en_drop | apply en_app) <;> fail)
  · rintro ⟨⟩ _
    have sw := seg_over k many (by omega)
    have sl := seg_len k 0 many
    have hC := fun L h => ICount_ctr t 300 (seg k 0 many) L (-400) 400 h
    have hLn := fun L => ILen_ctr t 300 (seg k 0 many) L
    rw [sw] at hC
    rw [sl] at hC hLn
    (repeat first | refine G_seq ?_ | refine G_skip ?_ | refine G_endblk ?_ | refine G_block ?_ | refine G_exit rfl ?_)
    refine G_region ?_
    refine GO_q rfl rfl (ev_move rfl) ?_
    refine GO_eff rfl rfl (eff_call rfl (Ctr.pick (by repeat' first | exact Pick.here | apply Pick.skip | apply Pick.app) (ICheck_ctr t 300 (seg k 0 many) _ (by omega) (by omega)))) ?_; rintro _ _ ⟨rfl, rfl⟩
    refine GO_q rfl rfl (ev_not rfl) ?_
    refine GO_q rfl rfl (ev_move rfl) ?_
    refine GO_yes rfl rfl rfl rfl ?_
    refine GO_q rfl rfl (ev_move rfl) ?_
    refine GO_yes rfl rfl rfl rfl ?_
    refine GO_eff rfl rfl (eff_call rfl (Ctr.pick (by repeat' first | exact Pick.here | apply Pick.skip | apply Pick.app) (hLn _))) ?_; rintro _ _ ⟨rfl, rfl⟩
    refine GO_yes rfl rfl rfl rfl ?_
    refine GO_q rfl rfl (ev_move rfl) ?_
    refine GO_yes rfl rfl rfl rfl ?_
    refine GO_q rfl rfl (ev_neq rfl rfl) ?_
    refine GO_q rfl rfl (ev_pick_f rfl rfl rfl) ?_
    refine GO_q rfl rfl (ev_move rfl) ?_
    refine GO_yes rfl rfl rfl (by simp) ?_
    refine GO_q rfl rfl (ev_move rfl) ?_
    refine GO_yes rfl rfl rfl (by simp) ?_
    refine GO_eff rfl rfl (eff_call rfl (Ctr.pick (by repeat' first | exact Pick.here | apply Pick.skip | apply Pick.app) (hC _ (by omega)))) ?_; rintro _ _ ⟨rfl, rfl⟩
    refine GO_yes rfl rfl rfl (by simp) ?_
    refine GO_q rfl rfl (ev_move rfl) ?_
    refine GO_yes rfl rfl rfl (by simp) ?_
    refine GO_q rfl rfl (ev_neq rfl rfl) ?_
    refine GO_q rfl rfl (ev_pick_f rfl (by simp) rfl) ?_
    refine GO_nil ?_
    (repeat first | refine G_seq ?_ | refine G_skip ?_ | refine G_endblk ?_ | refine G_block ?_ | refine G_exit rfl ?_)
    refine G_cond_f rfl (by simp) ?_
    (repeat first | refine G_seq ?_ | refine G_skip ?_ | refine G_endblk ?_ | refine G_block ?_ | refine G_exit rfl ?_)
    refine G_region ?_
    refine GO_q rfl rfl (ev_assign rfl) ?_
    refine GO_nil ?_
    (repeat first | refine G_seq ?_ | refine G_skip ?_ | refine G_endblk ?_)
    refine G_cut (ι := Unit) (fun _ => [(5, .pointer (some ⟨t, 0, none⟩))]) (fun _ => treeI t 300 [] :: F :: L) (fun _ => True) ?_ ?_
    · (repeat first | refine G_seq ?_ | refine G_skip ?_ | refine G_endblk ?_ | refine G_block ?_ | refine G_exit rfl ?_)
      refine G_loop (ι := Nat) (fun i => [(0, .int .u8 (n : Int)), (1, .int .u8 (kind : Int)), (5, .pointer (some ⟨t, 0, none⟩)), (7, .int .i64 (many : Int)), (9, .int .i64 ((i + 1 : Nat) : Int))]) (fun i => treeI t 300 (seg k (lft r i) (many - i)) :: F :: L) (fun i => i ≤ many) (fun i => many - i) 0 (Nat.zero_le _) ⟨rfl, rfl, rfl, rfl, rfl, trivial⟩ (by
        have e : lft r 0 = 0 := by unfold lft; split <;> rfl
        rw [e]
        exact (by (repeat first | exact en_refl | (apply en_blk; focus ((repeat' first | exact Pick.here | apply Pick.skip | apply Pick.app); done); focus rfl) | (apply en_own; focus ((repeat' first | exact Pick.here | apply Pick.skip | apply Pick.app); done); focus rfl) | (apply en_pick; focus ((repeat' first | exact Pick.here | apply Pick.skip | apply Pick.app); done)) | apply en_drop | apply en_app) <;> fail)) ?_
      intro i hi
      rcases Nat.lt_or_ge i many with hlt | hge
      · obtain ⟨m, hmm⟩ : ∃ m, many - i = m + 1 := ⟨many - i - 1, by omega⟩
        obtain ⟨d1, d2⟩ := lft_del r k many i m (by omega)
        have hPd := fun L h => IDelete_ctr t 300 (seg k (lft r i) (m + 1)) (liP k (nxtI r many (i + 1))) L h
        rw [d1, d2] at hPd
        have sl2 := seg_len k (lft r i) (m + 1)
        have sl3 := seg_len k (lft r (i + 1)) m
        rw [hmm]
        have hnx : 1 ≤ nxtI r many (i + 1) ∧ nxtI r many (i + 1) ≤ 100 := by unfold nxtI; split <;> omega
        (repeat first | refine G_seq ?_ | refine G_skip ?_ | refine G_endblk ?_ | refine G_block ?_ | refine G_exit rfl ?_)
        refine G_region ?_
        refine GO_q rfl rfl (ev_move rfl) ?_
        refine GO_q rfl rfl (ev_move rfl) ?_
        refine GO_q rfl rfl (ev_leq rfl rfl) ?_
        refine GO_nil ?_
        (repeat first | refine G_seq ?_ | refine G_skip ?_ | refine G_endblk ?_ | refine G_block ?_ | refine G_exit rfl ?_)
        refine G_cond_t rfl (decide_eq_true (by omega)) ?_
        (repeat first | refine G_seq ?_ | refine G_skip ?_ | refine G_endblk ?_ | refine G_block ?_ | refine G_exit rfl ?_)
        refine G_region ?_
        refine GO_q rfl rfl (ev_move rfl) ?_
        refine GO_q rfl rfl (ev_assign rfl) ?_
        refine GO_nil ?_
        (repeat first | refine G_seq ?_ | refine G_skip ?_ | refine G_endblk ?_ | refine G_block ?_ | refine G_exit rfl ?_)
        refine G_region ?_
        refine GO_q rfl rfl (ev_move rfl) ?_
        refine GO_q rfl rfl (ev_geq rfl rfl) ?_
        refine GO_nil ?_
        (repeat first | refine G_seq ?_ | refine G_skip ?_ | refine G_endblk ?_)
        refine G_cut (ι := Unit) (fun _ => [(0, .int .u8 (n : Int)), (1, .int .u8 (kind : Int)), (5, .pointer (some ⟨t, 0, none⟩)), (7, .int .i64 (many : Int)), (9, .int .i64 ((i + 1 : Nat) : Int)), (10, .int .i64 ((nxtI r many (i + 1) : Nat) : Int))]) (fun _ => treeI t 300 (seg k (lft r i) (m + 1)) :: F :: L) (fun _ => True) ?_ ?_
        · cases hrr : r with
          | true =>
            rw [hrr] at hr
            (repeat first | refine G_seq ?_ | refine G_skip ?_ | refine G_endblk ?_ | refine G_block ?_ | refine G_exit rfl ?_)
            refine G_cond_t rfl hr ?_
            (repeat first | refine G_seq ?_ | refine G_skip ?_ | refine G_endblk ?_ | refine G_block ?_ | refine G_exit rfl ?_)
            refine G_region ?_
            refine GO_q rfl rfl (ev_move rfl) ?_
            (first | refine GO_q rfl rfl (ev_addN (q := 1) rfl rfl (by first | omega | (simp; done) | (simp; omega))) ?_ | refine GO_q rfl rfl (ev_add rfl rfl (by first | omega | (simp; done) | (simp; omega))) ?_)
            refine GO_q rfl rfl (ev_move rfl) ?_
            refine GO_q rfl rfl (ev_subN rfl rfl (by omega)) ?_
            refine GO_q rfl rfl (ev_assign rfl) ?_
            refine GO_nil ?_
            (repeat first | refine G_seq ?_ | refine G_skip ?_ | refine G_endblk ?_ | refine G_block ?_ | refine G_exit rfl ?_)
            exact G_inv () trivial ⟨rfl, rfl, rfl, rfl, rfl, rfl, trivial⟩ (by (repeat first | exact en_refl | (apply en_blk; focus ((repeat' first | exact Pick.here | apply Pick.skip | apply Pick.app); done); focus rfl) | (apply en_own; focus ((repeat' first | exact Pick.here | apply Pick.skip | apply Pick.app); done); focus rfl) | (apply en_pick; focus ((repeat' first | exact Pick.here | apply Pick.skip | apply Pick.app); done)) | apply en_drop | apply en_app) <;> fail)
          | false =>
            rw [hrr] at hr
            (repeat first | refine G_seq ?_ | refine G_skip ?_ | refine G_endblk ?_ | refine G_block ?_ | refine G_exit rfl ?_)
            refine G_cond_f rfl hr ?_
            (repeat first | refine G_seq ?_ | refine G_skip ?_ | refine G_endblk ?_ | refine G_block ?_ | refine G_exit rfl ?_)
            exact G_inv () trivial ⟨rfl, rfl, rfl, rfl, rfl, rfl, trivial⟩ (by (repeat first | exact en_refl | (apply en_blk; focus ((repeat' first | exact Pick.here | apply Pick.skip | apply Pick.app); done); focus rfl) | (apply en_own; focus ((repeat' first | exact Pick.here | apply Pick.skip | apply Pick.app); done); focus rfl) | (apply en_pick; focus ((repeat' first | exact Pick.here | apply Pick.skip | apply Pick.app); done)) | apply en_drop | apply en_app) <;> fail)
        · rintro ⟨⟩ _
          generalize nxtI r many (i + 1) = j at *
          generalize hse : seg k (lft r (i + 1)) m = se at *
          have hse2 : seg k (lft r (i + 1)) (many - (i + 1)) = se := by rw [← hse]; congr 1; omega
          by_cases h9 : ((i + 1 : Nat) : Int) % 9 = 0
          case' pos =>
            (repeat first | refine G_seq ?_ | refine G_skip ?_ | refine G_endblk ?_ | refine G_block ?_ | refine G_exit rfl ?_)
            refine G_region ?_
            refine GO_q rfl rfl (ev_move rfl) ?_
            refine GO_q rfl rfl (ev_move rfl) ?_
            refine GO_q rfl rfl (ev_move rfl) ?_
            refine GO_eff rfl rfl (eff_call rfl (hli j _ (by omega))) ?_; rintro _ _ ⟨rfl, rfl⟩
            refine GO_eff rfl rfl (eff_call rfl (Ctr.pick (by repeat' first | exact Pick.here | apply Pick.skip | apply Pick.app) (hPd _ (by omega)))) ?_; rintro _ _ ⟨rfl, rfl⟩
            refine GO_q rfl rfl (ev_neq rfl rfl) ?_
            refine GO_q rfl rfl (ev_move rfl) ?_
            refine GO_yes rfl rfl rfl rfl ?_
            refine GO_q rfl rfl (ev_move rfl) ?_
            refine GO_yes rfl rfl rfl rfl ?_
            refine GO_q rfl rfl (ev_rem rfl rfl (by omega) (by omega)) ?_
            refine GO_yes rfl rfl rfl rfl ?_
            refine GO_q rfl rfl (ev_eql rfl rfl) ?_
            refine GO_yes rfl rfl rfl rfl ?_
            refine GO_q rfl rfl (ev_move rfl) ?_
            refine GO_yes rfl rfl rfl (decide_eq_true h9) ?_
            refine GO_q rfl rfl (ev_move rfl) ?_
            refine GO_yes rfl rfl rfl (decide_eq_true h9) ?_
            refine GO_eff rfl rfl (eff_call rfl (Ctr.pick (by repeat' first | exact Pick.here | apply Pick.skip | apply Pick.app) (ICheck_ctr t 300 se _ (by omega) (by omega)))) ?_; rintro _ _ ⟨rfl, rfl⟩
            refine GO_yes rfl rfl rfl (decide_eq_true h9) ?_
            refine GO_q rfl rfl (ev_not rfl) ?_
            refine GO_yes rfl rfl rfl rfl ?_
            refine GO_q rfl rfl (ev_pick_t rfl (decide_eq_true h9) rfl) ?_
            refine GO_q rfl rfl (ev_pick_f rfl rfl rfl) ?_
            refine GO_nil ?_
          case' neg =>
            (repeat first | refine G_seq ?_ | refine G_skip ?_ | refine G_endblk ?_ | refine G_block ?_ | refine G_exit rfl ?_)
            refine G_region ?_
            refine GO_q rfl rfl (ev_move rfl) ?_
            refine GO_q rfl rfl (ev_move rfl) ?_
            refine GO_q rfl rfl (ev_move rfl) ?_
            refine GO_eff rfl rfl (eff_call rfl (hli j _ (by omega))) ?_; rintro _ _ ⟨rfl, rfl⟩
            refine GO_eff rfl rfl (eff_call rfl (Ctr.pick (by repeat' first | exact Pick.here | apply Pick.skip | apply Pick.app) (hPd _ (by omega)))) ?_; rintro _ _ ⟨rfl, rfl⟩
            refine GO_q rfl rfl (ev_neq rfl rfl) ?_
            refine GO_q rfl rfl (ev_move rfl) ?_
            refine GO_yes rfl rfl rfl rfl ?_
            refine GO_q rfl rfl (ev_move rfl) ?_
            refine GO_yes rfl rfl rfl rfl ?_
            refine GO_q rfl rfl (ev_rem rfl rfl (by omega) (by omega)) ?_
            refine GO_yes rfl rfl rfl rfl ?_
            refine GO_q rfl rfl (ev_eql rfl rfl) ?_
            refine GO_yes rfl rfl rfl rfl ?_
            refine GO_q rfl rfl (ev_move rfl) ?_
            refine GO_no rfl rfl rfl (decide_eq_false h9) ?_
            refine GO_no rfl rfl rfl (decide_eq_false h9) ?_
            refine GO_no rfl rfl rfl (decide_eq_false h9) ?_
            refine GO_yes rfl rfl rfl rfl ?_
            refine GO_q rfl rfl (ev_pick_f rfl (decide_eq_false h9) rfl) ?_
            refine GO_q rfl rfl (ev_pick_f rfl rfl rfl) ?_
            refine GO_nil ?_
          all_goals
            (repeat first | refine G_seq ?_ | refine G_skip ?_ | refine G_endblk ?_ | refine G_block ?_ | refine G_exit rfl ?_)
            refine G_cond_f rfl rfl ?_
            (repeat first | refine G_seq ?_ | refine G_skip ?_ | refine G_endblk ?_ | refine G_block ?_ | refine G_exit rfl ?_)
            refine G_region ?_
            refine GO_q rfl rfl (ev_move rfl) ?_
            (first | refine GO_q rfl rfl (ev_addN (q := 1) rfl rfl (by first | omega | (simp; done) | (simp; omega))) ?_ | refine GO_q rfl rfl (ev_add rfl rfl (by first | omega | (simp; done) | (simp; omega))) ?_)
            refine GO_q rfl rfl (ev_assign rfl) ?_
            refine GO_nil ?_
            (repeat first | refine G_seq ?_ | refine G_skip ?_ | refine G_endblk ?_ | refine G_block ?_ | refine G_exit rfl ?_)
            refine G_round (i + 1) (by omega) (by omega) ⟨rfl, rfl, rfl, rfl, rfl, trivial⟩ ?_
            rw [hse2]
            exact (by (repeat first | exact en_refl | (apply en_blk; focus ((repeat' first | exact Pick.here | apply Pick.skip | apply Pick.app); done); focus rfl) | (apply en_own; focus ((repeat' first | exact Pick.here | apply Pick.skip | apply Pick.app); done); focus rfl) | (apply en_pick; focus ((repeat' first | exact Pick.here | apply Pick.skip | apply Pick.app); done)) | apply en_drop | apply en_app) <;> fail)
      · have e : i = many := by omega
        subst e
        have e0 : seg k (lft r i) (i - i) = [] := by rw [Nat.sub_self]; rfl
        rw [e0]
        (repeat first | refine G_seq ?_ | refine G_skip ?_ | refine G_endblk ?_ | refine G_block ?_ | refine G_exit rfl ?_)
        refine G_region ?_
        refine GO_q rfl rfl (ev_move rfl) ?_
        refine GO_q rfl rfl (ev_move rfl) ?_
        refine GO_q rfl rfl (ev_leq rfl rfl) ?_
        refine GO_nil ?_
        (repeat first | refine G_seq ?_ | refine G_skip ?_ | refine G_endblk ?_ | refine G_block ?_ | refine G_exit rfl ?_)
        refine G_cond_f rfl (decide_eq_false (by omega)) ?_
        (repeat first | refine G_seq ?_ | refine G_skip ?_ | refine G_endblk ?_ | refine G_block ?_ | refine G_exit rfl ?_)
        exact G_inv () trivial ⟨rfl, trivial⟩ (by (repeat first | exact en_refl | (apply en_blk; focus ((repeat' first | exact Pick.here | apply Pick.skip | apply Pick.app); done); focus rfl) | (apply en_own; focus ((repeat' first | exact Pick.here | apply Pick.skip | apply Pick.app); done); focus rfl) | (apply en_pick; focus ((repeat' first | exact Pick.here | apply Pick.skip | apply Pick.app); done)) | apply en_drop | apply en_app) <;> fail)
    · rintro ⟨⟩ _
      (repeat first | refine G_seq ?_ | refine G_skip ?_ | refine G_endblk ?_ | refine G_block ?_ | refine G_exit rfl ?_)
      refine G_region ?_
      refine GO_q rfl rfl (ev_move rfl) ?_
      refine GO_eff rfl rfl (eff_call rfl (Ctr.pick (by repeat' first | exact Pick.here | apply Pick.skip | apply Pick.app) (ILen_ctr t 300 [] _))) ?_; rintro _ _ ⟨rfl, rfl⟩
      refine GO_q rfl rfl (ev_eql rfl rfl) ?_
      refine GO_q rfl rfl (ev_move rfl) ?_
      refine GO_yes rfl rfl rfl rfl ?_
      refine GO_q rfl rfl (ev_move rfl) ?_
      refine GO_yes rfl rfl rfl rfl ?_
      refine GO_eff rfl rfl (eff_call rfl (Ctr.pick (by repeat' first | exact Pick.here | apply Pick.skip | apply Pick.app) (IRoot0_ctr t 300 _))) ?_; rintro _ _ ⟨rfl, rfl⟩
      refine GO_yes rfl rfl rfl rfl ?_
      (first | refine GO_q rfl rfl (ev_eqlNil rfl rfl) ?_ | refine GO_q rfl rfl (ev_eqlPtr rfl rfl) ?_)
      refine GO_q rfl rfl (ev_pick_t rfl rfl rfl) ?_
      refine GO_q rfl rfl (ev_move rfl) ?_
      refine GO_yes rfl rfl rfl rfl ?_
      refine GO_q rfl rfl (ev_move rfl) ?_
      refine GO_yes rfl rfl rfl rfl ?_
      refine GO_eff rfl rfl (eff_call rfl (Ctr.pick (by repeat' first | exact Pick.here | apply Pick.skip | apply Pick.app) (ICheck_ctr t 300 [] _ (by decide) (by decide)))) ?_; rintro _ _ ⟨rfl, rfl⟩
      refine GO_q rfl rfl (ev_pick_t rfl rfl rfl) ?_
      refine GO_q rfl rfl (ev_move rfl) ?_
      refine GO_yes rfl rfl rfl rfl ?_
      refine GO_eff rfl rfl (eff_call rfl (lives20_ctr _)) ?_; rintro _ _ ⟨rfl, X, rfl⟩
      refine GO_q rfl rfl (ev_pick_t rfl rfl rfl) ?_
      refine GO_q rfl rfl (ev_assign rfl) ?_
      refine GO_nil ?_
      (repeat first | refine G_seq ?_ | refine G_skip ?_ | refine G_endblk ?_ | refine G_block ?_ | refine G_exit rfl ?_)
      exact G_ret (L' := L) rfl (.tmp rfl .nil) (by (repeat first | exact fun _ s => s | apply en_keep | apply en_drop | apply en_app) <;> fail) ⟨rfl, rfl⟩
theorem itreeLine_walk (n k : Int) (hn : (Lit.int .u8 n).wf = true) (hk : (Lit.int .u8 k).wf = true) (w : World) :
    Calls Tryz.prog 5 #[.int .u8 n, .int .u8 k] w fun e w' => e = .returned (.bool true) ∧ Below w.heap.size w w' := by
  obtain ⟨n, rfl, h1⟩ := bounds_u8 hn
  obtain ⟨k, rfl, h2⟩ := bounds_u8 hk
  exact law_of_ctr (ItreeLine_ctr n k h1 h2 _)
end Go.Proofs.YtjnmpogolknkpaaGreat
