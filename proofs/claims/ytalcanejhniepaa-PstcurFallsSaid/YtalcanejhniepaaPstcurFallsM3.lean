/- Texts of the law PstcurFalls, one behind the other. -/
import Derived.Test.YtalcanejhniepaaPstcurFallsM2
import Derived.Test.YtalcanejhniepaaPstcurFallsM1
import Derived.Sort.Grow
import Derived.Shelf.Sort.Plain
import Derived.Shelf.Slices.In.SortNone
import Derived.Test.YtalcanejhniepaaProg
/- Trees that are heaps by Y, with where each node lies: what those lean on that read alone. -/
namespace Go.Proofs.Ytalcanejhniepaa
set_option linter.unusedVariables false
set_option linter.unusedSimpArgs false

instance : Enc (Option Addr) := ⟨1, fun a => [.pointer a], fun _ => rfl, fun _ v h => by simp at h; subst h; rfl⟩
theorem LdN.sub {L : List HP} {b o n : Nat} {vs ws : List Value} (h : LdN L b o n vs) (k m : Nat) (e : takeE (dropE vs k) m = some ws) : LdN L b (o + k) m ws :=
  ⟨(takeE_get e).1, fun j v hj => by
    have h1 := (takeE_get e).2 j v hj
    rw [dropE_eq, List.getElem?_drop] at h1
    rw [Nat.add_assoc]
    exact h.2 _ _ h1⟩
theorem Ld.of {A : HP} {N L : List HP} {a : Addr} {v : Value} (f : ∀ h, A h → sat N h) (l : Ld N a v) : Ld (A :: L) a v := ⟨fun h s => by
  obtain ⟨h1, h2, d, s1, s2, x, t⟩ := s
  exact cellOf.sub (l.1 _ (f _ x)) s1⟩
theorem LdN.of {A : HP} {N L : List HP} {b o n : Nat} {vs : List Value} (f : ∀ h, A h → sat N h) (l : LdN N b o n vs) : LdN (A :: L) b o n vs := ⟨l.1, fun j v hj => (l.2 j v hj).of f⟩
/-- A tree, and where its nodes lie. -/
inductive PA where
  | nil
  | node (b : Nat) (p s : Pt) (lo hi : PA)
def PA.addr : PA → Option Addr
  | .nil => none
  | .node b _ _ _ _ => some ⟨b, 0, none⟩
def PA.t : PA → PT
  | .nil => .nil
  | .node _ p s lo hi => .node p s lo.t hi.t
def paH : PA → HP
  | .nil => fun _ => True
  | .node b p s lo hi => fun h => sat [blk b 100 (nodeC p s lo.addr hi.addr (lo.t.size + 1 + hi.t.size)), paH lo, paH hi] h
def PIn (L : List HP) : PA → Prop
  | .nil => True
  | .node b p s lo hi => LdN L b 0 9 (nodeC p s lo.addr hi.addr (lo.t.size + 1 + hi.t.size)) ∧ PIn L lo ∧ PIn L hi
theorem PIn.mono {L M : List HP} (f : ∀ h, sat M h → sat L h) : ∀ {x : PA}, PIn L x → PIn M x
  | .nil, _ => trivial
  | .node b p s lo hi, h => ⟨h.1.mono f, h.2.1.mono f, h.2.2.mono f⟩
theorem PIn.skip {X : HP} {L : List HP} {x : PA} (h : PIn L x) : PIn (X :: L) x := h.mono fun _ s => s.tail
theorem PIn.app {N L : List HP} {x : PA} (h : PIn L x) : PIn (N ++ L) x := by
  induction N with
  | nil => exact h
  | cons X N ih => exact ih.skip
theorem PIn.of {A : HP} {N L : List HP} (f : ∀ h, A h → sat N h) : ∀ {x : PA}, PIn N x → PIn (A :: L) x
  | .nil, _ => trivial
  | .node b p s lo hi, h => ⟨h.1.of f, h.2.1.of f, h.2.2.of f⟩
theorem paH_in : ∀ (x : PA) (L : List HP), PIn (paH x :: L) x
  | .nil, _ => trivial
  | .node b p s lo hi, L => PIn.of (N := [blk b 100 (nodeC p s lo.addr hi.addr (lo.t.size + 1 + hi.t.size)), paH lo, paH hi]) (fun _ h => h) ⟨LdN.blk rfl, (paH_in lo _).skip, (paH_in hi []).skip.skip⟩
theorem ptH_open : ∀ (t : PT) (a : Option Addr) (h : Hm), ptH t a h → ∃ x : PA, x.t = t ∧ x.addr = a ∧ paH x h
  | .nil, a, h, e => ⟨.nil, rfl, Eq.symm e, trivial⟩
  | .node p s lo hi, a, h, ⟨⟨b, al, ah⟩, e, h1, h2, d, s1, s2, q, k1, k2, d2, t1, t2, ql, j1, j2, d3, u1, u2, qh, z⟩ => by
    obtain ⟨x, rfl, rfl, hx⟩ := ptH_open lo _ _ ql
    obtain ⟨y, rfl, rfl, hy⟩ := ptH_open hi _ _ qh
    exact ⟨.node b p s x y, rfl, e.symm, h1, h2, d, s1, s2, q, k1, k2, d2, t1, t2, hx, j1, j2, d3, u1, u2, hy, z⟩
theorem paH_close : ∀ (x : PA) (h : Hm), paH x h → ptH x.t x.addr h
  | .nil, _, _ => rfl
  | .node b p s lo hi, h, ⟨h1, h2, d, s1, s2, q, k1, k2, d2, t1, t2, ql, j1, j2, d3, u1, u2, qh, z⟩ =>
    ⟨(b, lo.addr, hi.addr), rfl, h1, h2, d, s1, s2, q, k1, k2, d2, t1, t2, paH_close lo _ ql, j1, j2, d3, u1, u2, paH_close hi _ qh, z⟩
theorem en_pa {L M : List HP} {x : PA} {t : PT} {a : Option Addr} (h1 : x.t = t) (h2 : x.addr = a) (f : ∀ h, sat L h → sat (paH x :: M) h) : ∀ h, sat L h → sat (ptH t a :: M) h := fun h s => by
  subst h1 h2
  exact sat.head (N := [ptH x.t x.addr]) (fun h q => sat.one (paH_close x h q)) (f h s)
theorem Ctr.pa {P : Program} {f : FuncId} {args : Array Value} {L : List HP} {t : PT} {a : Option Addr} {post : Value → List HP → Prop} (h : ∀ x : PA, x.t = t → x.addr = a → Ctr P f args (paH x :: L) post) : Ctr P f args (ptH t a :: L) post := fun g F w hw => by
  obtain ⟨h1, h2, d, s1, s2, q, l⟩ := hw.s.swap
  obtain ⟨x, e1, e2, hx⟩ := ptH_open t a _ q
  exact h x e1 e2 g F w ⟨hw.g, sat.swap ⟨h1, h2, d, s1, s2, hx, l⟩⟩
structure PF (L : List HP) (b : Nat) (p s : Pt) (lo hi : PA) : Prop where
  f_lo : Ld L ⟨b, 0 + 6, none⟩ (.pointer lo.addr)
  f_hi : Ld L ⟨b, 0 + 7, none⟩ (.pointer hi.addr)
  f_n : Ld L ⟨b, 0 + 8, none⟩ (.int .i64 (lo.t.size + 1 + hi.t.size : Nat))
  f_p : LdN L b (0 + 0) 3 [.int .i64 p.id, .int .i64 p.x, .int .i64 p.y]
  f_s : LdN L b (0 + 3) 3 [.int .i64 s.id, .int .i64 s.x, .int .i64 s.y]
  f_pid : Ld L ⟨b, 0 + 0 + 0, none⟩ (.int .i64 p.id)
  f_px : Ld L ⟨b, 0 + 0 + 1, none⟩ (.int .i64 p.x)
  f_py : Ld L ⟨b, 0 + 0 + 2, none⟩ (.int .i64 p.y)
  f_sx : Ld L ⟨b, 0 + 3 + 1, none⟩ (.int .i64 s.x)
theorem PIn.f {L : List HP} {b : Nat} {p s : Pt} {lo hi : PA} (h : PIn L (.node b p s lo hi)) : PF L b p s lo hi :=
  have hp := h.1.sub 0 3 rfl
  have hs := h.1.sub 3 3 rfl
  ⟨h.1.at_ (i := 6) rfl, h.1.at_ (i := 7) rfl, h.1.at_ (i := 8) rfl, hp, hs, hp.at_ (i := 0) rfl, hp.at_ (i := 1) rfl, hp.at_ (i := 2) rfl, hs.at_ (i := 1) rfl⟩
end Go.Proofs.Ytalcanejhniepaa
/- Trees that are heaps by Y: depth, size, look. -/
namespace Go.Proofs.Ytalcanejhniepaa
attribute [local irreducible] sat
set_option linter.unusedVariables false
set_option linter.unusedSimpArgs false
set_option maxRecDepth 100000

def PT.depth : PT → Nat
  | .nil => 0
  | .node _ _ lo hi => max lo.depth hi.depth + 1
theorem PT.depth_le : ∀ t : PT, t.depth ≤ t.size
  | .nil => Nat.le_refl _
  | .node p s lo hi => by
    have h1 := depth_le lo
    have h2 := depth_le hi
    simp only [PT.depth, PT.size]; omega
theorem depth_ctr : ∀ (x : PA) (L : List HP), PIn L x → x.t.size ≤ 100000 → Ctr Try.prog 57 #[.pointer x.addr] L fun v L' => v = .int .i64 (x.t.depth : Nat) ∧ L' = L
  | .nil, L, h, hs => by
    refine Ctr_of (fn := Try.f57) (n := 17) Try.func57 rfl rfl rfl ?_
    intro g F
    (repeat first | refine G_seq ?_ | refine G_skip ?_ | refine G_endblk ?_ | refine G_block ?_ | refine G_exit rfl ?_)
    refine G_region ?_
    refine GO_q rfl rfl (ev_assign rfl) ?_
    refine GO_nil ?_
    (repeat first | refine G_seq ?_ | refine G_skip ?_ | refine G_endblk ?_ | refine G_block ?_ | refine G_exit rfl ?_)
    refine G_region ?_
    refine GO_q rfl rfl (ev_move rfl) ?_
    (first | refine GO_q rfl rfl (ev_eqlNil rfl rfl) ?_ | refine GO_q rfl rfl (ev_eqlPtr rfl rfl) ?_)
    refine GO_nil ?_
    (repeat first | refine G_seq ?_ | refine G_skip ?_ | refine G_endblk ?_ | refine G_block ?_ | refine G_exit rfl ?_)
    refine G_cond_t rfl rfl ?_
    (repeat first | refine G_seq ?_ | refine G_skip ?_ | refine G_endblk ?_ | refine G_block ?_ | refine G_exit rfl ?_)
    refine G_region ?_
    refine GO_q rfl rfl (ev_assign rfl) ?_
    refine GO_nil ?_
    (repeat first | refine G_seq ?_ | refine G_skip ?_ | refine G_endblk ?_ | refine G_block ?_ | refine G_exit rfl ?_)
    refine G_ret rfl (.tmp rfl .nil) (by (repeat first | exact fun _ s => s | apply en_keep | apply en_drop | apply en_app) <;> fail) ⟨rfl, rfl⟩
  | .node b p s lo hi, L, h, hs => by
    have ih1 := fun L h => depth_ctr lo L h
    have ih2 := fun L h => depth_ctr hi L h
    simp only [PA.t, PT.size] at hs
    have d1 := lo.t.depth_le
    have d2 := hi.t.depth_le
    obtain ⟨q1, q2, q3, q4, q5, q6, q7, q8, q9⟩ := h.f
    refine Ctr_of (fn := Try.f57) (n := 17) Try.func57 rfl rfl rfl ?_
    intro g F
    (repeat first | refine G_seq ?_ | refine G_skip ?_ | refine G_endblk ?_ | refine G_block ?_ | refine G_exit rfl ?_)
    refine G_region ?_
    refine GO_q rfl rfl (ev_assign rfl) ?_
    refine GO_nil ?_
    (repeat first | refine G_seq ?_ | refine G_skip ?_ | refine G_endblk ?_ | refine G_block ?_ | refine G_exit rfl ?_)
    refine G_region ?_
    refine GO_q rfl rfl (ev_move rfl) ?_
    (first | refine GO_q rfl rfl (ev_eqlNil rfl rfl) ?_ | refine GO_q rfl rfl (ev_eqlPtr rfl rfl) ?_)
    refine GO_nil ?_
    (repeat first | refine G_seq ?_ | refine G_skip ?_ | refine G_endblk ?_ | refine G_block ?_ | refine G_exit rfl ?_)
    refine G_cond_f rfl rfl ?_
    (repeat first | refine G_seq ?_ | refine G_skip ?_ | refine G_endblk ?_ | refine G_block ?_ | refine G_exit rfl ?_)
    refine G_draw (.q 0 (.q 1 (.q 2 (.q 3 (.q 5 (.q 6 (.q 7 (.q 8 (.e 4 (.e 9 (.q 10 (.q 11 (.q 12 .nil))))))))))))) (by kernel_rfl) (by kernel_rfl) ?_
    refine RS_m retB_noPanic rfl rfl rfl rfl (ev_move rfl) ?_
    (first | refine RS_m retB_noPanic rfl rfl rfl rfl (ev_nilCheck rfl) ?_ | refine RS_m retB_noPanic rfl rfl rfl rfl (ev_nilCheckF (by simp) rfl) ?_)
    refine RS_m retB_noPanic rfl rfl rfl rfl (ev_fieldAddr rfl) ?_
    refine RS_q retB_noPanic rfl rfl rfl rfl (ev_load rfl (by repeat' first | exact Ld.blk rfl | assumption | apply Ld.skip | apply Ld.app)) ?_
    refine RS_m retB_noPanic rfl rfl rfl rfl (ev_move rfl) ?_
    (first | refine RS_m retB_noPanic rfl rfl rfl rfl (ev_nilCheck rfl) ?_ | refine RS_m retB_noPanic rfl rfl rfl rfl (ev_nilCheckF (by simp) rfl) ?_)
    refine RS_m retB_noPanic rfl rfl rfl rfl (ev_fieldAddr rfl) ?_
    refine RS_q retB_noPanic rfl rfl rfl rfl (ev_load rfl (by repeat' first | exact Ld.blk rfl | assumption | apply Ld.skip | apply Ld.app)) ?_
    refine RS_e (RE_eff rfl rfl rfl (eff_call rfl (ih1 _ h.2.1.skip (by omega))) ?_); rintro _ _ ⟨rfl, rfl⟩; refine ⟨_, fun _ s => s, (by first | ((repeat first | exact fun _ s => s | apply en_keep | apply en_drop | apply en_app) <;> fail) | ((repeat first | exact en_refl | (apply en_blk; focus ((repeat' first | exact Pick.here | apply Pick.skip | apply Pick.app); done); focus rfl) | (apply en_own; focus ((repeat' first | exact Pick.here | apply Pick.skip | apply Pick.app); done); focus rfl) | (apply en_pick; focus ((repeat' first | exact Pick.here | apply Pick.skip | apply Pick.app); done)) | apply en_drop | apply en_app) <;> fail)), ?_⟩
    refine RS_e (RE_eff rfl rfl rfl (eff_call rfl (ih2 _ h.2.2.skip (by omega))) ?_); rintro _ _ ⟨rfl, rfl⟩; refine ⟨_, fun _ s => s, (by first | ((repeat first | exact fun _ s => s | apply en_keep | apply en_drop | apply en_app) <;> fail) | ((repeat first | exact en_refl | (apply en_blk; focus ((repeat' first | exact Pick.here | apply Pick.skip | apply Pick.app); done); focus rfl) | (apply en_own; focus ((repeat' first | exact Pick.here | apply Pick.skip | apply Pick.app); done); focus rfl) | (apply en_pick; focus ((repeat' first | exact Pick.here | apply Pick.skip | apply Pick.app); done)) | apply en_drop | apply en_app) <;> fail)), ?_⟩
    refine RS_q retB_noPanic rfl rfl rfl rfl (ev_max rfl rfl) ?_
    refine RS_m retB_noPanic rfl rfl rfl rfl (ev_add (p := max (lo.t.depth : Int) (hi.t.depth : Int)) rfl rfl (by omega)) ?_
    refine RS_m retB_noPanic rfl rfl rfl rfl (ev_assign rfl) ?_
    refine RS_nil ?_
    (repeat first | refine G_seq ?_ | refine G_skip ?_ | refine G_endblk ?_ | refine G_block ?_ | refine G_exit rfl ?_)
    refine G_ret rfl (.tmp rfl .nil) (by (repeat first | exact fun _ s => s | apply en_keep | apply en_drop | apply en_app) <;> fail) ⟨congrArg (Value.int .i64) (by simp only [PA.t, PT.depth]; omega), rfl⟩
theorem rsize_ctr (x : PA) (L : List HP) (h : PIn L x) : Ctr Try.prog 50 #[.pointer x.addr] L fun v L' => v = .int .i64 (x.t.size : Nat) ∧ L' = L := by
  cases x with
  | nil =>
    refine Ctr_of (fn := Try.f50) (n := 9) Try.func50 rfl rfl rfl ?_
    intro g F
    (repeat first | refine G_seq ?_ | refine G_skip ?_ | refine G_endblk ?_ | refine G_block ?_ | refine G_exit rfl ?_)
    refine G_region ?_
    refine GO_q rfl rfl (ev_assign rfl) ?_
    refine GO_nil ?_
    (repeat first | refine G_seq ?_ | refine G_skip ?_ | refine G_endblk ?_ | refine G_block ?_ | refine G_exit rfl ?_)
    refine G_region ?_
    refine GO_q rfl rfl (ev_move rfl) ?_
    (first | refine GO_q rfl rfl (ev_eqlNil rfl rfl) ?_ | refine GO_q rfl rfl (ev_eqlPtr rfl rfl) ?_)
    refine GO_nil ?_
    (repeat first | refine G_seq ?_ | refine G_skip ?_ | refine G_endblk ?_ | refine G_block ?_ | refine G_exit rfl ?_)
    refine G_cond_t rfl rfl ?_
    (repeat first | refine G_seq ?_ | refine G_skip ?_ | refine G_endblk ?_ | refine G_block ?_ | refine G_exit rfl ?_)
    refine G_region ?_
    refine GO_q rfl rfl (ev_assign rfl) ?_
    refine GO_nil ?_
    (repeat first | refine G_seq ?_ | refine G_skip ?_ | refine G_endblk ?_ | refine G_block ?_ | refine G_exit rfl ?_)
    refine G_ret rfl (.tmp rfl .nil) (by (repeat first | exact fun _ s => s | apply en_keep | apply en_drop | apply en_app) <;> fail) ⟨rfl, rfl⟩
  | node b p s lo hi =>
    obtain ⟨q1, q2, q3, q4, q5, q6, q7, q8, q9⟩ := h.f
    refine Ctr_of (fn := Try.f50) (n := 9) Try.func50 rfl rfl rfl ?_
    intro g F
    (repeat first | refine G_seq ?_ | refine G_skip ?_ | refine G_endblk ?_ | refine G_block ?_ | refine G_exit rfl ?_)
    refine G_region ?_
    refine GO_q rfl rfl (ev_assign rfl) ?_
    refine GO_nil ?_
    (repeat first | refine G_seq ?_ | refine G_skip ?_ | refine G_endblk ?_ | refine G_block ?_ | refine G_exit rfl ?_)
    refine G_region ?_
    refine GO_q rfl rfl (ev_move rfl) ?_
    (first | refine GO_q rfl rfl (ev_eqlNil rfl rfl) ?_ | refine GO_q rfl rfl (ev_eqlPtr rfl rfl) ?_)
    refine GO_nil ?_
    (repeat first | refine G_seq ?_ | refine G_skip ?_ | refine G_endblk ?_ | refine G_block ?_ | refine G_exit rfl ?_)
    refine G_cond_f rfl rfl ?_
    (repeat first | refine G_seq ?_ | refine G_skip ?_ | refine G_endblk ?_ | refine G_block ?_ | refine G_exit rfl ?_)
    refine G_region ?_
    refine GO_q rfl rfl (ev_move rfl) ?_
    (first | refine GO_q rfl rfl (ev_nilCheck rfl) ?_ | refine GO_q rfl rfl (ev_nilCheckF (by simp) rfl) ?_)
    refine GO_q rfl rfl (ev_fieldAddr rfl) ?_
    refine GO_q rfl rfl (ev_load rfl (by repeat' first | exact Ld.blk rfl | assumption | apply Ld.skip | apply Ld.app)) ?_
    refine GO_q rfl rfl (ev_assign rfl) ?_
    refine GO_nil ?_
    (repeat first | refine G_seq ?_ | refine G_skip ?_ | refine G_endblk ?_ | refine G_block ?_ | refine G_exit rfl ?_)
    refine G_ret rfl (.tmp rfl .nil) (by (repeat first | exact fun _ s => s | apply en_keep | apply en_drop | apply en_app) <;> fail) ⟨rfl, rfl⟩
theorem Size_ctr (x : PA) (L : List HP) (h : PIn L x) : Ctr Try.prog 36 #[.pointer x.addr] L fun v L' => v = .int .i64 (x.t.size : Nat) ∧ L' = L := by
  refine Ctr_of (fn := Try.f36) (n := 5) Try.func36 rfl rfl rfl ?_
  intro g F
  (repeat first | refine G_seq ?_ | refine G_skip ?_ | refine G_endblk ?_ | refine G_block ?_ | refine G_exit rfl ?_)
  refine G_region ?_
  refine GO_q rfl rfl (ev_assign rfl) ?_
  refine GO_nil ?_
  (repeat first | refine G_seq ?_ | refine G_skip ?_ | refine G_endblk ?_ | refine G_block ?_ | refine G_exit rfl ?_)
  refine G_region ?_
  refine GO_q rfl rfl (ev_move rfl) ?_
  refine GO_eff rfl rfl (eff_call rfl (rsize_ctr x _ h.skip)) ?_; rintro _ _ ⟨rfl, rfl⟩
  refine GO_q rfl rfl (ev_assign rfl) ?_
  refine GO_nil ?_
  (repeat first | refine G_seq ?_ | refine G_skip ?_ | refine G_endblk ?_ | refine G_block ?_ | refine G_exit rfl ?_)
  refine G_ret rfl (.tmp rfl .nil) (by (repeat first | exact fun _ s => s | apply en_keep | apply en_drop | apply en_app) <;> fail) ⟨rfl, rfl⟩
/-- Three of four again and again. -/
def bnd : Nat → Nat → Nat
  | 0, _ => 0
  | f + 1, n => if n < 1 then 0 else bnd f (3 * n / 4) + 1
theorem bnd_fuel : ∀ (f g n : Nat), n ≤ f → n ≤ g → bnd f n = bnd g n
  | 0, 0, n, _, _ => rfl
  | 0, g + 1, n, h, _ => by
    have : n = 0 := by omega
    subst this; rfl
  | f + 1, 0, n, _, h => by
    have : n = 0 := by omega
    subst this; rfl
  | f + 1, g + 1, n, h1, h2 => by
    unfold bnd
    by_cases h : n < 1
    · rw [if_pos h, if_pos h]
    · rw [if_neg h, if_neg h, bnd_fuel f g (3 * n / 4) (by omega) (by omega)]
def bnd1 (n : Nat) : Nat := bnd n n
theorem bnd1_zero : bnd1 0 = 0 := rfl
theorem bnd1_step {n : Nat} (h : 1 ≤ n) : bnd1 n = bnd1 (3 * n / 4) + 1 := by
  unfold bnd1
  obtain ⟨m, rfl⟩ : ∃ m, n = m + 1 := ⟨n - 1, by omega⟩
  conv => lhs; unfold bnd
  rw [if_neg (by omega), bnd_fuel m (3 * (m + 1) / 4) _ (by omega) (Nat.le_refl _)]
theorem bnd1_mono : ∀ (m n : Nat), n ≤ m → bnd1 n ≤ bnd1 m := by
  intro m
  induction m using Nat.strongRecOn with
  | _ m ih =>
    intro n hn
    rcases Nat.eq_zero_or_pos n with h | h
    · subst h; exact Nat.zero_le _
    · rw [bnd1_step h, bnd1_step (n := m) (by omega)]
      have := ih (3 * m / 4) (by omega) (3 * n / 4) (by omega)
      omega
theorem PT.depth_bnd : ∀ {t : PT}, t.Bal → t.depth ≤ bnd1 t.size
  | .nil, _ => Nat.zero_le _
  | .node p s lo hi, h => by
    have h1 := depth_bnd h.1
    have h2 := depth_bnd h.2.1
    have h3 := h.2.2
    have m1 := bnd1_mono (3 * (lo.size + 1 + hi.size) / 4) lo.size (by omega)
    have m2 := bnd1_mono (3 * (lo.size + 1 + hi.size) / 4) hi.size (by omega)
    simp only [PT.depth, PT.size]
    rw [bnd1_step (by omega)]
    omega
/-- How deep a tree of so many may be. -/
def bound (n : Nat) : Nat := if n < 1 then 0 else bnd1 n + 1
theorem bound_ctr (n : Nat) (L : List HP) (hn : n ≤ 1000000) : Ctr Try.prog 58 #[.int .i64 (n : Nat)] L fun v L' => v = .int .i64 (bound n : Nat) ∧ L' = L := by
  have hb : bnd1 n ≤ n := by
    induction n using Nat.strongRecOn with
    | _ n ih =>
      rcases Nat.eq_zero_or_pos n with h | h
      · subst h; exact Nat.le_refl _
      · rw [bnd1_step h]
        have := ih (3 * n / 4) (by omega) (by omega)
        omega
  refine Ctr_of (fn := Try.f58) (n := 15) Try.func58 rfl rfl rfl ?_
  intro g F
  (repeat first | refine G_seq ?_ | refine G_skip ?_ | refine G_endblk ?_ | refine G_block ?_ | refine G_exit rfl ?_)
  refine G_region ?_
  refine GO_q rfl rfl (ev_assign rfl) ?_
  refine GO_nil ?_
  (repeat first | refine G_seq ?_ | refine G_skip ?_ | refine G_endblk ?_ | refine G_block ?_ | refine G_exit rfl ?_)
  refine G_region ?_
  refine GO_q rfl rfl (ev_move rfl) ?_
  (first | refine GO_q rfl rfl (ev_lssN (q := 1) rfl rfl) ?_ | refine GO_q rfl rfl (ev_lss rfl rfl) ?_)
  refine GO_nil ?_
  by_cases h0 : n < 1
  · have e : n = 0 := by omega
    subst e
    (repeat first | refine G_seq ?_ | refine G_skip ?_ | refine G_endblk ?_ | refine G_block ?_ | refine G_exit rfl ?_)
    refine G_cond_t rfl rfl ?_
    (repeat first | refine G_seq ?_ | refine G_skip ?_ | refine G_endblk ?_ | refine G_block ?_ | refine G_exit rfl ?_)
    refine G_region ?_
    refine GO_q rfl rfl (ev_assign rfl) ?_
    refine GO_nil ?_
    (repeat first | refine G_seq ?_ | refine G_skip ?_ | refine G_endblk ?_ | refine G_block ?_ | refine G_exit rfl ?_)
    refine G_ret rfl (.tmp rfl .nil) (by (repeat first | exact fun _ s => s | apply en_keep | apply en_drop | apply en_app) <;> fail) ⟨rfl, rfl⟩
  · (repeat first | refine G_seq ?_ | refine G_skip ?_ | refine G_endblk ?_ | refine G_block ?_ | refine G_exit rfl ?_)
    refine G_cond_f rfl (decide_eq_false (by omega)) ?_
    have hst := bnd1_step (n := n) (by omega)
    (repeat first | refine G_seq ?_ | refine G_skip ?_ | refine G_endblk ?_ | refine G_block ?_ | refine G_exit rfl ?_)
    refine G_region ?_
    refine GO_q rfl rfl (ev_assign rfl) ?_
    refine GO_nil ?_
    (repeat first | refine G_seq ?_ | refine G_skip ?_ | refine G_endblk ?_ | refine G_block ?_ | refine G_exit rfl ?_)
    refine G_region ?_
    refine GO_q rfl rfl (ev_move rfl) ?_
    refine GO_eff rfl rfl (eff_call rfl (part_ctr n _ (by omega))) ?_; rintro _ _ ⟨rfl, rfl⟩
    refine GO_q rfl rfl (ev_assign rfl) ?_
    refine GO_nil ?_
    (repeat first | refine G_seq ?_ | refine G_skip ?_ | refine G_endblk ?_ | refine G_block ?_ | refine G_exit rfl ?_)
    refine G_loop (ι := Nat × Nat) (fun x => [(0, .int .i64 (x.1 : Nat)), (3, .int .i64 (x.2 : Nat))]) (fun _ => F :: L) (fun x => x.2 + bnd1 x.1 = 1 + bnd1 n ∧ x.1 ≤ n) (fun x => x.1) (3 * n / 4, 2) ⟨by simp only; omega, by simp only; omega⟩ ⟨rfl, rfl, trivial⟩ (by (repeat first | exact fun _ s => s | apply en_keep | apply en_drop | apply en_app) <;> fail) ?_
    rintro ⟨m, k⟩ ⟨f1, f2⟩
    simp only at f1 f2
    dsimp only
    (repeat first | refine G_seq ?_ | refine G_skip ?_ | refine G_endblk ?_ | refine G_block ?_ | refine G_exit rfl ?_)
    refine G_region ?_
    refine GO_q rfl rfl (ev_move rfl) ?_
    refine GO_q rfl rfl (ev_geq rfl rfl) ?_
    refine GO_nil ?_
    by_cases h1 : m < 1
    · have e : m = 0 := by omega
      subst e
      (repeat first | refine G_seq ?_ | refine G_skip ?_ | refine G_endblk ?_ | refine G_block ?_ | refine G_exit rfl ?_)
      refine G_cond_f rfl rfl ?_
      (repeat first | refine G_seq ?_ | refine G_skip ?_ | refine G_endblk ?_ | refine G_block ?_ | refine G_exit rfl ?_)
      refine G_region ?_
      refine GO_q rfl rfl (ev_move rfl) ?_
      refine GO_q rfl rfl (ev_assign rfl) ?_
      refine GO_nil ?_
      have ek : k = bound n := by
        unfold bound
        rw [if_neg h0]
        rw [bnd1_zero] at f1
        omega
      rw [ek]
      (repeat first | refine G_seq ?_ | refine G_skip ?_ | refine G_endblk ?_ | refine G_block ?_ | refine G_exit rfl ?_)
      refine G_ret rfl (.tmp rfl .nil) (by (repeat first | exact fun _ s => s | apply en_keep | apply en_drop | apply en_app) <;> fail) ⟨rfl, rfl⟩
    · (repeat first | refine G_seq ?_ | refine G_skip ?_ | refine G_endblk ?_ | refine G_block ?_ | refine G_exit rfl ?_)
      refine G_cond_t rfl (decide_eq_true (by omega)) ?_
      have hs2 := bnd1_step (n := m) (by omega)
      (repeat first | refine G_seq ?_ | refine G_skip ?_ | refine G_endblk ?_ | refine G_block ?_ | refine G_exit rfl ?_)
      refine G_region ?_
      refine GO_q rfl rfl (ev_move rfl) ?_
      (first | refine GO_q rfl rfl (ev_addN (q := 1) rfl rfl (by first | omega | (simp; done) | (simp; omega))) ?_ | refine GO_q rfl rfl (ev_add rfl rfl (by first | omega | (simp; done) | (simp; omega))) ?_)
      refine GO_q rfl rfl (ev_assign rfl) ?_
      refine GO_nil ?_
      (repeat first | refine G_seq ?_ | refine G_skip ?_ | refine G_endblk ?_ | refine G_block ?_ | refine G_exit rfl ?_)
      refine G_region ?_
      refine GO_q rfl rfl (ev_move rfl) ?_
      refine GO_eff rfl rfl (eff_call rfl (part_ctr m _ (by omega))) ?_; rintro _ _ ⟨rfl, rfl⟩
      refine GO_q rfl rfl (ev_assign rfl) ?_
      refine GO_nil ?_
      (repeat first | refine G_seq ?_ | refine G_skip ?_ | refine G_endblk ?_ | refine G_block ?_ | refine G_exit rfl ?_)
      exact G_round (3 * m / 4, k + 1) ⟨by simp only; omega, by simp only; omega⟩ (by simp only; omega) ⟨rfl, rfl, trivial⟩ (by (repeat first | exact fun _ s => s | apply en_keep | apply en_drop | apply en_app) <;> fail)
end Go.Proofs.Ytalcanejhniepaa
/- Trees that are heaps by Y: what a window sees. -/
namespace Go.Proofs.Ytalcanejhniepaa
attribute [local irreducible] sat
set_option linter.unusedVariables false
set_option linter.unusedSimpArgs false
set_option maxRecDepth 100000

def PA.isN : PA → Bool
  | .nil => true
  | .node _ _ _ _ _ => false
theorem PA.isN_addr (x : PA) : x.addr.isNone = x.isN := by cases x <;> rfl
theorem PA.isN_addr' (x : PA) : x.addr.isSome = !x.isN := by cases x <;> rfl
def PA.hit (w : Wn) : PA → Bool
  | .nil => false
  | .node _ p _ _ _ => w.sees p.x p.y
def PA.next1 (w : Wn) : PA → List PA
  | .nil => []
  | .node _ p s lo hi => if p.y < w.y then [] else if !lo.isN && decide (w.x1 ≤ s.x) then [lo] else []
def PA.next2 (w : Wn) : PA → List PA
  | .nil => []
  | .node _ p s lo hi => if p.y < w.y then [] else if !hi.isN && decide (s.x ≤ w.x2) then [hi] else []
def PA.next (w : Wn) (x : PA) : List PA := x.next1 w ++ x.next2 w
def addrs (l : List PA) : List (Option Addr) := l.map PA.addr
theorem addrs_len (l : List PA) : (addrs l).length = l.length := List.length_map ..
def LookR (hit : Bool) (l : List PA) (L : List HP) (v : Value) (L' : List HP) : Prop := ∃ A c, v = .tuple #[.bool hit, .slice A l.length c] ∧ (0 < l.length → ∃ b, A = some ⟨b, 0, none⟩) ∧ L' = own 67 1 A l.length c (flat (addrs l)) :: L
theorem wn_low (w : Wn) (p : Pt) (h : p.y < w.y) : w.sees p.x p.y = false := by
  unfold Wn.sees
  rw [decide_eq_false (by omega)]
  simp
theorem look_ctr (x : PA) (w : Wn) (L : List HP) (h : PIn L x) : Ctr Try.prog 64 #[.pointer x.addr, .agg #[.int .i64 w.x1, .int .i64 w.x2, .int .i64 w.y]] L fun v L' => LookR (x.hit w) (x.next w) L v L' := by
  cases x with
  | nil =>
    refine Ctr_of (fn := Try.f64) (n := 69) Try.func64 rfl rfl rfl ?_
    intro g F
    (repeat first | refine G_seq ?_ | refine G_skip ?_ | refine G_endblk ?_ | refine G_block ?_ | refine G_exit rfl ?_)
    refine G_region ?_
    refine GO_eff rfl rfl (eff_box rfl) ?_; rintro _ _ ⟨b3, rfl, rfl⟩
    refine GO_q rfl rfl (ev_assign rfl) ?_
    refine GO_q rfl rfl (ev_assign rfl) ?_
    refine GO_nil ?_
    (repeat first | refine G_seq ?_ | refine G_skip ?_ | refine G_endblk ?_ | refine G_block ?_ | refine G_exit rfl ?_)
    refine G_draw (.q 0 (.q 1 (.q 2 (.q 3 (.q 4 (.q 5 (.q 6 (.q 7 (.q 8 (.q 9 (.q 10 (.q 11 .nil)))))))))))) (by kernel_rfl) (by kernel_rfl) ?_
    refine RS_m retB_noPanic rfl rfl rfl rfl (ev_move rfl) ?_
    (first | refine RS_m retB_noPanic rfl rfl rfl rfl (ev_eqlNil rfl rfl) ?_ | refine RS_m retB_noPanic rfl rfl rfl rfl (ev_eqlPtr rfl rfl) ?_)
    refine RS_m retB_noPanic rfl rfl rfl rfl (ev_move rfl) ?_
    refine RS_q_no retB_noPanic rfl rfl rfl ⟨_, rfl, rfl⟩ rfl ?_
    refine RS_q_no retB_noPanic rfl rfl rfl ⟨_, rfl, rfl⟩ rfl ?_
    refine RS_q_no retB_noPanic rfl rfl rfl ⟨_, rfl, rfl⟩ rfl ?_
    refine RS_q_no retB_noPanic rfl rfl rfl ⟨_, rfl, rfl⟩ rfl ?_
    refine RS_q_no retB_noPanic rfl rfl rfl ⟨_, rfl, rfl⟩ rfl ?_
    refine RS_q_no retB_noPanic rfl rfl rfl ⟨_, rfl, rfl⟩ rfl ?_
    refine RS_q_no retB_noPanic rfl rfl rfl ⟨_, rfl, rfl⟩ rfl ?_
    refine RS_q_no retB_noPanic rfl rfl rfl ⟨_, rfl, rfl⟩ rfl ?_
    refine RS_m retB_noPanic rfl rfl rfl rfl (ev_pick_t rfl rfl rfl) ?_
    refine RS_nil ?_
    (repeat first | refine G_seq ?_ | refine G_skip ?_ | refine G_endblk ?_ | refine G_block ?_ | refine G_exit rfl ?_)
    refine G_cond_t rfl rfl ?_
    (repeat first | refine G_seq ?_ | refine G_skip ?_ | refine G_endblk ?_ | refine G_block ?_ | refine G_exit rfl ?_)
    refine G_region ?_
    refine GO_q rfl rfl (ev_assign rfl) ?_
    refine GO_q rfl rfl (ev_assign rfl) ?_
    refine GO_nil ?_
    (repeat first | refine G_seq ?_ | refine G_skip ?_ | refine G_endblk ?_ | refine G_block ?_ | refine G_exit rfl ?_)
    exact G_ret (L' := own 67 1 none 0 0 [] :: L) rfl (.tmp rfl (.tmp rfl .nil)) (fun h s => en_pick (.skip (.skip .here)) (en_keep (en_drop en_refl)) h (own.nil_ 67 1 h s)) ⟨none, 0, rfl, fun h => absurd h (Nat.lt_irrefl 0), rfl⟩
  | node b p s lo hi =>
    obtain ⟨q1, q2, q3, q4, q5, q6, q7, q8, q9⟩ := h.f
    by_cases hy : p.y < w.y
    · have e1 : (PA.node b p s lo hi).next w = [] := by simp [PA.next, PA.next1, PA.next2, hy]
      have e2 : (PA.node b p s lo hi).hit w = false := wn_low w p hy
      rw [e1, e2]
      refine Ctr_of (fn := Try.f64) (n := 69) Try.func64 rfl rfl rfl ?_
      intro g F
      (repeat first | refine G_seq ?_ | refine G_skip ?_ | refine G_endblk ?_ | refine G_block ?_ | refine G_exit rfl ?_)
      refine G_region ?_
      refine GO_eff rfl rfl (eff_box rfl) ?_; rintro _ _ ⟨b3, rfl, rfl⟩
      refine GO_q rfl rfl (ev_assign rfl) ?_
      refine GO_q rfl rfl (ev_assign rfl) ?_
      refine GO_nil ?_
      (repeat first | refine G_seq ?_ | refine G_skip ?_ | refine G_endblk ?_ | refine G_block ?_ | refine G_exit rfl ?_)
      refine G_draw (.q 0 (.q 1 (.q 2 (.q 3 (.q 4 (.q 5 (.q 6 (.q 7 (.q 8 (.q 9 (.q 10 (.q 11 .nil)))))))))))) (by kernel_rfl) (by kernel_rfl) ?_
      refine RS_m retB_noPanic rfl rfl rfl rfl (ev_move rfl) ?_
      (first | refine RS_m retB_noPanic rfl rfl rfl rfl (ev_eqlNil rfl rfl) ?_ | refine RS_m retB_noPanic rfl rfl rfl rfl (ev_eqlPtr rfl rfl) ?_)
      refine RS_m retB_noPanic rfl rfl rfl rfl (ev_move rfl) ?_
      refine RS_m_yes retB_noPanic rfl rfl rfl rfl ⟨_, rfl, rfl⟩ rfl (ev_move rfl) ?_
      (first | refine RS_m_yes retB_noPanic rfl rfl rfl rfl ⟨_, rfl, rfl⟩ rfl (ev_nilCheck rfl) ?_ | refine RS_m_yes retB_noPanic rfl rfl rfl rfl ⟨_, rfl, rfl⟩ rfl (ev_nilCheckF (by simp) rfl) ?_)
      refine RS_m_yes retB_noPanic rfl rfl rfl rfl ⟨_, rfl, rfl⟩ rfl (ev_fieldAddr rfl) ?_
      refine RS_m_yes retB_noPanic rfl rfl rfl rfl ⟨_, rfl, rfl⟩ rfl (ev_fieldAddr rfl) ?_
      refine RS_q_yes retB_noPanic rfl rfl rfl rfl ⟨_, rfl, rfl⟩ rfl (ev_load rfl (by repeat' first | exact Ld.blk rfl | assumption | apply Ld.skip | apply Ld.app)) ?_
      refine RS_m_yes retB_noPanic rfl rfl rfl rfl ⟨_, rfl, rfl⟩ rfl (ev_fieldAddr rfl) ?_
      refine RS_q_yes retB_noPanic rfl rfl rfl rfl ⟨_, rfl, rfl⟩ rfl (ev_load rfl (by repeat' first | exact Ld.blk rfl | assumption | apply Ld.skip | apply Ld.app)) ?_
      (first | refine RS_m_yes retB_noPanic rfl rfl rfl rfl ⟨_, rfl, rfl⟩ rfl (ev_lssN rfl rfl) ?_ | refine RS_m_yes retB_noPanic rfl rfl rfl rfl ⟨_, rfl, rfl⟩ rfl (ev_lss rfl rfl) ?_)
      refine RS_m retB_noPanic rfl rfl rfl rfl (ev_pick_f rfl rfl rfl) ?_
      refine RS_nil ?_
      (repeat first | refine G_seq ?_ | refine G_skip ?_ | refine G_endblk ?_ | refine G_block ?_ | refine G_exit rfl ?_)
      refine G_cond_t rfl (decide_eq_true hy) ?_
      (repeat first | refine G_seq ?_ | refine G_skip ?_ | refine G_endblk ?_ | refine G_block ?_ | refine G_exit rfl ?_)
      refine G_region ?_
      refine GO_q rfl rfl (ev_assign rfl) ?_
      refine GO_q rfl rfl (ev_assign rfl) ?_
      refine GO_nil ?_
      (repeat first | refine G_seq ?_ | refine G_skip ?_ | refine G_endblk ?_ | refine G_block ?_ | refine G_exit rfl ?_)
      exact G_ret (L' := own 67 1 none 0 0 [] :: L) rfl (.tmp rfl (.tmp rfl .nil)) (fun h s => en_pick (.skip (.skip .here)) (en_keep (en_drop en_refl)) h (own.nil_ 67 1 h s)) ⟨none, 0, rfl, fun h => absurd h (Nat.lt_irrefl 0), rfl⟩
    · have e1 : (PA.node b p s lo hi).next1 w = if !lo.isN && decide (w.x1 ≤ s.x) then [lo] else [] := by simp [PA.next1, hy]
      have e2 : (PA.node b p s lo hi).next2 w = if !hi.isN && decide (s.x ≤ w.x2) then [hi] else [] := by simp [PA.next2, hy]
      unfold PA.next
      generalize (PA.node b p s lo hi).next1 w = l1 at *
      generalize (PA.node b p s lo hi).next2 w = l2 at *
      refine Ctr_of (fn := Try.f64) (n := 69) Try.func64 rfl rfl rfl ?_
      intro g F
      (repeat first | refine G_seq ?_ | refine G_skip ?_ | refine G_endblk ?_ | refine G_block ?_ | refine G_exit rfl ?_)
      refine G_region ?_
      refine GO_eff rfl rfl (eff_box rfl) ?_; rintro _ _ ⟨b3, rfl, rfl⟩
      refine GO_q rfl rfl (ev_assign rfl) ?_
      refine GO_q rfl rfl (ev_assign rfl) ?_
      refine GO_nil ?_
      (repeat first | refine G_seq ?_ | refine G_skip ?_ | refine G_endblk ?_ | refine G_block ?_ | refine G_exit rfl ?_)
      refine G_draw (.q 0 (.q 1 (.q 2 (.q 3 (.q 4 (.q 5 (.q 6 (.q 7 (.q 8 (.q 9 (.q 10 (.q 11 .nil)))))))))))) (by kernel_rfl) (by kernel_rfl) ?_
      refine RS_m retB_noPanic rfl rfl rfl rfl (ev_move rfl) ?_
      (first | refine RS_m retB_noPanic rfl rfl rfl rfl (ev_eqlNil rfl rfl) ?_ | refine RS_m retB_noPanic rfl rfl rfl rfl (ev_eqlPtr rfl rfl) ?_)
      refine RS_m retB_noPanic rfl rfl rfl rfl (ev_move rfl) ?_
      refine RS_m_yes retB_noPanic rfl rfl rfl rfl ⟨_, rfl, rfl⟩ rfl (ev_move rfl) ?_
      (first | refine RS_m_yes retB_noPanic rfl rfl rfl rfl ⟨_, rfl, rfl⟩ rfl (ev_nilCheck rfl) ?_ | refine RS_m_yes retB_noPanic rfl rfl rfl rfl ⟨_, rfl, rfl⟩ rfl (ev_nilCheckF (by simp) rfl) ?_)
      refine RS_m_yes retB_noPanic rfl rfl rfl rfl ⟨_, rfl, rfl⟩ rfl (ev_fieldAddr rfl) ?_
      refine RS_m_yes retB_noPanic rfl rfl rfl rfl ⟨_, rfl, rfl⟩ rfl (ev_fieldAddr rfl) ?_
      refine RS_q_yes retB_noPanic rfl rfl rfl rfl ⟨_, rfl, rfl⟩ rfl (ev_load rfl (by repeat' first | exact Ld.blk rfl | assumption | apply Ld.skip | apply Ld.app)) ?_
      refine RS_m_yes retB_noPanic rfl rfl rfl rfl ⟨_, rfl, rfl⟩ rfl (ev_fieldAddr rfl) ?_
      refine RS_q_yes retB_noPanic rfl rfl rfl rfl ⟨_, rfl, rfl⟩ rfl (ev_load rfl (by repeat' first | exact Ld.blk rfl | assumption | apply Ld.skip | apply Ld.app)) ?_
      (first | refine RS_m_yes retB_noPanic rfl rfl rfl rfl ⟨_, rfl, rfl⟩ rfl (ev_lssN rfl rfl) ?_ | refine RS_m_yes retB_noPanic rfl rfl rfl rfl ⟨_, rfl, rfl⟩ rfl (ev_lss rfl rfl) ?_)
      refine RS_m retB_noPanic rfl rfl rfl rfl (ev_pick_f rfl rfl rfl) ?_
      refine RS_nil ?_
      (repeat first | refine G_seq ?_ | refine G_skip ?_ | refine G_endblk ?_ | refine G_block ?_ | refine G_exit rfl ?_)
      refine G_cond_f rfl (decide_eq_false hy) ?_
      refine G_heap (own.nil_ 67 1) ?_
      repeat refine G_skip ?_
      refine G_seq ?_
      refine G_cut (ι := Option Addr × Nat) (fun x => [(0, .pointer (some ⟨b, 0, none⟩)), (3, .pointer (some ⟨b3, 0, none⟩)), (5, .slice x.1 l1.length x.2)]) (fun x => own 67 1 x.1 l1.length x.2 (flat (addrs l1)) :: blk b3 45 [.int .i64 w.x1, .int .i64 w.x2, .int .i64 w.y] :: F :: L) (fun x => 0 < l1.length → ∃ b, x.1 = some ⟨b, 0, none⟩) ?_ ?_
      · cases hn : lo.isN with
        | true =>
          have el : l1 = [] := by rw [e1]; simp [hn]
          subst el
          (repeat first | refine G_seq ?_ | refine G_skip ?_ | refine G_endblk ?_ | refine G_block ?_ | refine G_exit rfl ?_)
          refine G_draw (.q 0 (.q 1 (.q 2 (.q 3 (.q 4 (.q 5 (.q 6 (.q 7 (.q 8 (.q 9 (.q 10 (.q 11 (.q 12 (.q 13 (.q 14 .nil))))))))))))))) (by kernel_rfl) (by kernel_rfl) ?_
          refine RS_m retB_noPanic rfl rfl rfl rfl (ev_move rfl) ?_
          (first | refine RS_m retB_noPanic rfl rfl rfl rfl (ev_nilCheck rfl) ?_ | refine RS_m retB_noPanic rfl rfl rfl rfl (ev_nilCheckF (by simp) rfl) ?_)
          refine RS_m retB_noPanic rfl rfl rfl rfl (ev_fieldAddr rfl) ?_
          refine RS_q retB_noPanic rfl rfl rfl rfl (ev_load rfl (by repeat' first | exact Ld.blk rfl | assumption | apply Ld.skip | apply Ld.app)) ?_
          (first | refine RS_m retB_noPanic rfl rfl rfl rfl (ev_neqNil rfl rfl) ?_ | refine RS_m retB_noPanic rfl rfl rfl rfl (ev_neqPtr rfl rfl) ?_)
          refine RS_m retB_noPanic rfl rfl rfl rfl (ev_move rfl) ?_
          refine RS_q_no retB_noPanic rfl rfl rfl ⟨_, rfl, (by first | rfl | (rw [PA.isN_addr', hn]; done) | (rw [PA.isN_addr', hn]; rfl))⟩ rfl ?_
          refine RS_q_no retB_noPanic rfl rfl rfl ⟨_, rfl, (by first | rfl | (rw [PA.isN_addr', hn]; done) | (rw [PA.isN_addr', hn]; rfl))⟩ rfl ?_
          refine RS_q_no retB_noPanic rfl rfl rfl ⟨_, rfl, (by first | rfl | (rw [PA.isN_addr', hn]; done) | (rw [PA.isN_addr', hn]; rfl))⟩ rfl ?_
          refine RS_q_no retB_noPanic rfl rfl rfl ⟨_, rfl, (by first | rfl | (rw [PA.isN_addr', hn]; done) | (rw [PA.isN_addr', hn]; rfl))⟩ rfl ?_
          refine RS_q_no retB_noPanic rfl rfl rfl ⟨_, rfl, (by first | rfl | (rw [PA.isN_addr', hn]; done) | (rw [PA.isN_addr', hn]; rfl))⟩ rfl ?_
          refine RS_q_no retB_noPanic rfl rfl rfl ⟨_, rfl, (by first | rfl | (rw [PA.isN_addr', hn]; done) | (rw [PA.isN_addr', hn]; rfl))⟩ rfl ?_
          refine RS_q_no retB_noPanic rfl rfl rfl ⟨_, rfl, (by first | rfl | (rw [PA.isN_addr', hn]; done) | (rw [PA.isN_addr', hn]; rfl))⟩ rfl ?_
          refine RS_q_no retB_noPanic rfl rfl rfl ⟨_, rfl, (by first | rfl | (rw [PA.isN_addr', hn]; done) | (rw [PA.isN_addr', hn]; rfl))⟩ rfl ?_
          refine RS_m retB_noPanic rfl rfl rfl rfl (ev_pick_f rfl (by first | rfl | (rw [PA.isN_addr', hn]; done) | (rw [PA.isN_addr', hn]; rfl)) rfl) ?_
          refine RS_nil ?_
          (repeat first | refine G_seq ?_ | refine G_skip ?_ | refine G_endblk ?_ | refine G_block ?_ | refine G_exit rfl ?_)
          refine G_cond_f rfl (by first | rfl | (rw [PA.isN_addr', hn]; done) | (rw [PA.isN_addr', hn]; rfl)) ?_
          (repeat first | refine G_seq ?_ | refine G_skip ?_ | refine G_endblk ?_ | refine G_block ?_ | refine G_exit rfl ?_)
          exact G_inv (none, 0) (fun h => absurd h (Nat.lt_irrefl 0)) ⟨rfl, rfl, rfl, trivial⟩ (by (repeat first | exact en_refl | (apply en_blk; focus ((repeat' first | exact Pick.here | apply Pick.skip | apply Pick.app); done); focus rfl) | (apply en_own; focus ((repeat' first | exact Pick.here | apply Pick.skip | apply Pick.app); done); focus rfl) | (apply en_pick; focus ((repeat' first | exact Pick.here | apply Pick.skip | apply Pick.app); done)) | apply en_drop | apply en_app) <;> fail)
        | false =>
          by_cases hx : w.x1 ≤ s.x
          · have el : l1 = [lo] := by rw [e1]; simp [hn, hx]
            subst el
            (repeat first | refine G_seq ?_ | refine G_skip ?_ | refine G_endblk ?_ | refine G_block ?_ | refine G_exit rfl ?_)
            refine G_draw (.q 0 (.q 1 (.q 2 (.q 3 (.q 4 (.q 5 (.q 6 (.q 7 (.q 8 (.q 9 (.q 10 (.q 11 (.q 12 (.q 13 (.q 14 .nil))))))))))))))) (by kernel_rfl) (by kernel_rfl) ?_
            refine RS_m retB_noPanic rfl rfl rfl rfl (ev_move rfl) ?_
            (first | refine RS_m retB_noPanic rfl rfl rfl rfl (ev_nilCheck rfl) ?_ | refine RS_m retB_noPanic rfl rfl rfl rfl (ev_nilCheckF (by simp) rfl) ?_)
            refine RS_m retB_noPanic rfl rfl rfl rfl (ev_fieldAddr rfl) ?_
            refine RS_q retB_noPanic rfl rfl rfl rfl (ev_load rfl (by repeat' first | exact Ld.blk rfl | assumption | apply Ld.skip | apply Ld.app)) ?_
            (first | refine RS_m retB_noPanic rfl rfl rfl rfl (ev_neqNil rfl rfl) ?_ | refine RS_m retB_noPanic rfl rfl rfl rfl (ev_neqPtr rfl rfl) ?_)
            refine RS_m retB_noPanic rfl rfl rfl rfl (ev_move rfl) ?_
            refine RS_m_yes retB_noPanic rfl rfl rfl rfl ⟨_, rfl, (by first | rfl | (rw [PA.isN_addr', hn]; done) | (rw [PA.isN_addr', hn]; rfl))⟩ rfl (ev_fieldAddr rfl) ?_
            refine RS_q_yes retB_noPanic rfl rfl rfl rfl ⟨_, rfl, (by first | rfl | (rw [PA.isN_addr', hn]; done) | (rw [PA.isN_addr', hn]; rfl))⟩ rfl (ev_load rfl (by repeat' first | exact Ld.blk rfl | assumption | apply Ld.skip | apply Ld.app)) ?_
            refine RS_m_yes retB_noPanic rfl rfl rfl rfl ⟨_, rfl, (by first | rfl | (rw [PA.isN_addr', hn]; done) | (rw [PA.isN_addr', hn]; rfl))⟩ rfl (ev_move rfl) ?_
            (first | refine RS_m_yes retB_noPanic rfl rfl rfl rfl ⟨_, rfl, (by first | rfl | (rw [PA.isN_addr', hn]; done) | (rw [PA.isN_addr', hn]; rfl))⟩ rfl (ev_nilCheck rfl) ?_ | refine RS_m_yes retB_noPanic rfl rfl rfl rfl ⟨_, rfl, (by first | rfl | (rw [PA.isN_addr', hn]; done) | (rw [PA.isN_addr', hn]; rfl))⟩ rfl (ev_nilCheckF (by simp) rfl) ?_)
            refine RS_m_yes retB_noPanic rfl rfl rfl rfl ⟨_, rfl, (by first | rfl | (rw [PA.isN_addr', hn]; done) | (rw [PA.isN_addr', hn]; rfl))⟩ rfl (ev_fieldAddr rfl) ?_
            refine RS_m_yes retB_noPanic rfl rfl rfl rfl ⟨_, rfl, (by first | rfl | (rw [PA.isN_addr', hn]; done) | (rw [PA.isN_addr', hn]; rfl))⟩ rfl (ev_fieldAddr rfl) ?_
            refine RS_q_yes retB_noPanic rfl rfl rfl rfl ⟨_, rfl, (by first | rfl | (rw [PA.isN_addr', hn]; done) | (rw [PA.isN_addr', hn]; rfl))⟩ rfl (ev_load rfl (by repeat' first | exact Ld.blk rfl | assumption | apply Ld.skip | apply Ld.app)) ?_
            refine RS_m_yes retB_noPanic rfl rfl rfl rfl ⟨_, rfl, (by first | rfl | (rw [PA.isN_addr', hn]; done) | (rw [PA.isN_addr', hn]; rfl))⟩ rfl (ev_leq rfl rfl) ?_
            refine RS_m retB_noPanic rfl rfl rfl rfl (ev_pick_t rfl (by first | rfl | (rw [PA.isN_addr', hn]; done) | (rw [PA.isN_addr', hn]; rfl)) rfl) ?_
            refine RS_nil ?_
            (repeat first | refine G_seq ?_ | refine G_skip ?_ | refine G_endblk ?_ | refine G_block ?_ | refine G_exit rfl ?_)
            refine G_cond_t rfl (decide_eq_true hx) ?_
            (repeat first | refine G_seq ?_ | refine G_skip ?_ | refine G_endblk ?_ | refine G_block ?_ | refine G_exit rfl ?_)
            refine G_region ?_
            refine GO_q rfl rfl (ev_move rfl) ?_
            refine GO_q rfl rfl (ev_move rfl) ?_
            (first | refine GO_q rfl rfl (ev_nilCheck rfl) ?_ | refine GO_q rfl rfl (ev_nilCheckF (by simp) rfl) ?_)
            refine GO_q rfl rfl (ev_fieldAddr rfl) ?_
            refine GO_q rfl rfl (ev_load rfl (by repeat' first | exact Ld.blk rfl | assumption | apply Ld.skip | apply Ld.app)) ?_
            refine GO_eff rfl rfl (eff_buildSlice1 (by rfl) rfl rfl) ?_; rintro _ _ ⟨b38, rfl, rfl⟩
            refine GO_eff rfl rfl (eff_append rfl rfl (by repeat' first | exact Pick.here | apply Pick.skip) (by repeat' first | exact Rc.blk rfl | assumption | apply Rc.skip) (one_all rfl) (by rfl) (by decide) (by first | omega | (simp; done) | (simp; omega)) (by first | omega | (simp; done) | (simp; omega))) ?_; rintro _ _ ⟨A39, c39, rfl, hc39, hm39, hn39, rfl⟩
            refine GO_q rfl rfl (ev_assign rfl) ?_
            refine GO_nil ?_
            (repeat first | refine G_seq ?_ | refine G_skip ?_ | refine G_endblk ?_ | refine G_block ?_ | refine G_exit rfl ?_)
            exact G_inv (A39, c39) (fun _ => hn39 (by simp)) ⟨rfl, rfl, rfl, trivial⟩ (by (repeat first | exact en_refl | (apply en_blk; focus ((repeat' first | exact Pick.here | apply Pick.skip | apply Pick.app); done); focus rfl) | (apply en_own; focus ((repeat' first | exact Pick.here | apply Pick.skip | apply Pick.app); done); focus rfl) | (apply en_pick; focus ((repeat' first | exact Pick.here | apply Pick.skip | apply Pick.app); done)) | apply en_drop | apply en_app) <;> fail)
          · have el : l1 = [] := by rw [e1]; simp [hn, hx]
            subst el
            (repeat first | refine G_seq ?_ | refine G_skip ?_ | refine G_endblk ?_ | refine G_block ?_ | refine G_exit rfl ?_)
            refine G_draw (.q 0 (.q 1 (.q 2 (.q 3 (.q 4 (.q 5 (.q 6 (.q 7 (.q 8 (.q 9 (.q 10 (.q 11 (.q 12 (.q 13 (.q 14 .nil))))))))))))))) (by kernel_rfl) (by kernel_rfl) ?_
            refine RS_m retB_noPanic rfl rfl rfl rfl (ev_move rfl) ?_
            (first | refine RS_m retB_noPanic rfl rfl rfl rfl (ev_nilCheck rfl) ?_ | refine RS_m retB_noPanic rfl rfl rfl rfl (ev_nilCheckF (by simp) rfl) ?_)
            refine RS_m retB_noPanic rfl rfl rfl rfl (ev_fieldAddr rfl) ?_
            refine RS_q retB_noPanic rfl rfl rfl rfl (ev_load rfl (by repeat' first | exact Ld.blk rfl | assumption | apply Ld.skip | apply Ld.app)) ?_
            (first | refine RS_m retB_noPanic rfl rfl rfl rfl (ev_neqNil rfl rfl) ?_ | refine RS_m retB_noPanic rfl rfl rfl rfl (ev_neqPtr rfl rfl) ?_)
            refine RS_m retB_noPanic rfl rfl rfl rfl (ev_move rfl) ?_
            refine RS_m_yes retB_noPanic rfl rfl rfl rfl ⟨_, rfl, (by first | rfl | (rw [PA.isN_addr', hn]; done) | (rw [PA.isN_addr', hn]; rfl))⟩ rfl (ev_fieldAddr rfl) ?_
            refine RS_q_yes retB_noPanic rfl rfl rfl rfl ⟨_, rfl, (by first | rfl | (rw [PA.isN_addr', hn]; done) | (rw [PA.isN_addr', hn]; rfl))⟩ rfl (ev_load rfl (by repeat' first | exact Ld.blk rfl | assumption | apply Ld.skip | apply Ld.app)) ?_
            refine RS_m_yes retB_noPanic rfl rfl rfl rfl ⟨_, rfl, (by first | rfl | (rw [PA.isN_addr', hn]; done) | (rw [PA.isN_addr', hn]; rfl))⟩ rfl (ev_move rfl) ?_
            (first | refine RS_m_yes retB_noPanic rfl rfl rfl rfl ⟨_, rfl, (by first | rfl | (rw [PA.isN_addr', hn]; done) | (rw [PA.isN_addr', hn]; rfl))⟩ rfl (ev_nilCheck rfl) ?_ | refine RS_m_yes retB_noPanic rfl rfl rfl rfl ⟨_, rfl, (by first | rfl | (rw [PA.isN_addr', hn]; done) | (rw [PA.isN_addr', hn]; rfl))⟩ rfl (ev_nilCheckF (by simp) rfl) ?_)
            refine RS_m_yes retB_noPanic rfl rfl rfl rfl ⟨_, rfl, (by first | rfl | (rw [PA.isN_addr', hn]; done) | (rw [PA.isN_addr', hn]; rfl))⟩ rfl (ev_fieldAddr rfl) ?_
            refine RS_m_yes retB_noPanic rfl rfl rfl rfl ⟨_, rfl, (by first | rfl | (rw [PA.isN_addr', hn]; done) | (rw [PA.isN_addr', hn]; rfl))⟩ rfl (ev_fieldAddr rfl) ?_
            refine RS_q_yes retB_noPanic rfl rfl rfl rfl ⟨_, rfl, (by first | rfl | (rw [PA.isN_addr', hn]; done) | (rw [PA.isN_addr', hn]; rfl))⟩ rfl (ev_load rfl (by repeat' first | exact Ld.blk rfl | assumption | apply Ld.skip | apply Ld.app)) ?_
            refine RS_m_yes retB_noPanic rfl rfl rfl rfl ⟨_, rfl, (by first | rfl | (rw [PA.isN_addr', hn]; done) | (rw [PA.isN_addr', hn]; rfl))⟩ rfl (ev_leq rfl rfl) ?_
            refine RS_m retB_noPanic rfl rfl rfl rfl (ev_pick_t rfl (by first | rfl | (rw [PA.isN_addr', hn]; done) | (rw [PA.isN_addr', hn]; rfl)) rfl) ?_
            refine RS_nil ?_
            (repeat first | refine G_seq ?_ | refine G_skip ?_ | refine G_endblk ?_ | refine G_block ?_ | refine G_exit rfl ?_)
            refine G_cond_f rfl (decide_eq_false hx) ?_
            (repeat first | refine G_seq ?_ | refine G_skip ?_ | refine G_endblk ?_ | refine G_block ?_ | refine G_exit rfl ?_)
            exact G_inv (none, 0) (fun h => absurd h (Nat.lt_irrefl 0)) ⟨rfl, rfl, rfl, trivial⟩ (by (repeat first | exact en_refl | (apply en_blk; focus ((repeat' first | exact Pick.here | apply Pick.skip | apply Pick.app); done); focus rfl) | (apply en_own; focus ((repeat' first | exact Pick.here | apply Pick.skip | apply Pick.app); done); focus rfl) | (apply en_pick; focus ((repeat' first | exact Pick.here | apply Pick.skip | apply Pick.app); done)) | apply en_drop | apply en_app) <;> fail)
      · rintro ⟨A1, c1⟩ hA
        simp only at hA
        dsimp only
        refine G_seq ?_
        refine G_cut (ι := Option Addr × Nat) (fun x => [(0, .pointer (some ⟨b, 0, none⟩)), (3, .pointer (some ⟨b3, 0, none⟩)), (5, .slice x.1 (l1 ++ l2).length x.2)]) (fun x => own 67 1 x.1 (l1 ++ l2).length x.2 (flat (addrs (l1 ++ l2))) :: blk b3 45 [.int .i64 w.x1, .int .i64 w.x2, .int .i64 w.y] :: F :: L) (fun x => 0 < (l1 ++ l2).length → ∃ b, x.1 = some ⟨b, 0, none⟩) ?_ ?_
        · have h1b : l1.length ≤ 1 := by rw [e1]; split <;> simp
          cases hn : hi.isN with
          | true =>
            have el : l2 = [] := by rw [e2]; simp [hn]
            subst el
            (repeat first | refine G_seq ?_ | refine G_skip ?_ | refine G_endblk ?_ | refine G_block ?_ | refine G_exit rfl ?_)
            refine G_draw (.q 0 (.q 1 (.q 2 (.q 3 (.q 4 (.q 5 (.q 6 (.q 7 (.q 8 (.q 9 (.q 10 (.q 11 (.q 12 (.q 13 (.q 14 .nil))))))))))))))) (by kernel_rfl) (by kernel_rfl) ?_
            refine RS_m retB_noPanic rfl rfl rfl rfl (ev_move rfl) ?_
            (first | refine RS_m retB_noPanic rfl rfl rfl rfl (ev_nilCheck rfl) ?_ | refine RS_m retB_noPanic rfl rfl rfl rfl (ev_nilCheckF (by simp) rfl) ?_)
            refine RS_m retB_noPanic rfl rfl rfl rfl (ev_fieldAddr rfl) ?_
            refine RS_q retB_noPanic rfl rfl rfl rfl (ev_load rfl (by repeat' first | exact Ld.blk rfl | assumption | apply Ld.skip | apply Ld.app)) ?_
            (first | refine RS_m retB_noPanic rfl rfl rfl rfl (ev_neqNil rfl rfl) ?_ | refine RS_m retB_noPanic rfl rfl rfl rfl (ev_neqPtr rfl rfl) ?_)
            refine RS_m retB_noPanic rfl rfl rfl rfl (ev_move rfl) ?_
            refine RS_q_no retB_noPanic rfl rfl rfl ⟨_, rfl, (by first | rfl | (rw [PA.isN_addr', hn]; done) | (rw [PA.isN_addr', hn]; rfl))⟩ rfl ?_
            refine RS_q_no retB_noPanic rfl rfl rfl ⟨_, rfl, (by first | rfl | (rw [PA.isN_addr', hn]; done) | (rw [PA.isN_addr', hn]; rfl))⟩ rfl ?_
            refine RS_q_no retB_noPanic rfl rfl rfl ⟨_, rfl, (by first | rfl | (rw [PA.isN_addr', hn]; done) | (rw [PA.isN_addr', hn]; rfl))⟩ rfl ?_
            refine RS_q_no retB_noPanic rfl rfl rfl ⟨_, rfl, (by first | rfl | (rw [PA.isN_addr', hn]; done) | (rw [PA.isN_addr', hn]; rfl))⟩ rfl ?_
            refine RS_q_no retB_noPanic rfl rfl rfl ⟨_, rfl, (by first | rfl | (rw [PA.isN_addr', hn]; done) | (rw [PA.isN_addr', hn]; rfl))⟩ rfl ?_
            refine RS_q_no retB_noPanic rfl rfl rfl ⟨_, rfl, (by first | rfl | (rw [PA.isN_addr', hn]; done) | (rw [PA.isN_addr', hn]; rfl))⟩ rfl ?_
            refine RS_q_no retB_noPanic rfl rfl rfl ⟨_, rfl, (by first | rfl | (rw [PA.isN_addr', hn]; done) | (rw [PA.isN_addr', hn]; rfl))⟩ rfl ?_
            refine RS_q_no retB_noPanic rfl rfl rfl ⟨_, rfl, (by first | rfl | (rw [PA.isN_addr', hn]; done) | (rw [PA.isN_addr', hn]; rfl))⟩ rfl ?_
            refine RS_m retB_noPanic rfl rfl rfl rfl (ev_pick_f rfl (by first | rfl | (rw [PA.isN_addr', hn]; done) | (rw [PA.isN_addr', hn]; rfl)) rfl) ?_
            refine RS_nil ?_
            (repeat first | refine G_seq ?_ | refine G_skip ?_ | refine G_endblk ?_ | refine G_block ?_ | refine G_exit rfl ?_)
            refine G_cond_f rfl (by first | rfl | (rw [PA.isN_addr', hn]; done) | (rw [PA.isN_addr', hn]; rfl)) ?_
            (repeat first | refine G_seq ?_ | refine G_skip ?_ | refine G_endblk ?_ | refine G_block ?_ | refine G_exit rfl ?_)
            exact G_inv (A1, c1) (fun h => hA (by simpa using h)) ⟨rfl, rfl, by rw [List.append_nil]; rfl, trivial⟩ (by rw [List.append_nil]; exact (by (repeat first | exact en_refl | (apply en_blk; focus ((repeat' first | exact Pick.here | apply Pick.skip | apply Pick.app); done); focus rfl) | (apply en_own; focus ((repeat' first | exact Pick.here | apply Pick.skip | apply Pick.app); done); focus rfl) | (apply en_pick; focus ((repeat' first | exact Pick.here | apply Pick.skip | apply Pick.app); done)) | apply en_drop | apply en_app) <;> fail))
          | false =>
            by_cases hx : s.x ≤ w.x2
            · have el : l2 = [hi] := by rw [e2]; simp [hn, hx]
              subst el
              (repeat first | refine G_seq ?_ | refine G_skip ?_ | refine G_endblk ?_ | refine G_block ?_ | refine G_exit rfl ?_)
              refine G_draw (.q 0 (.q 1 (.q 2 (.q 3 (.q 4 (.q 5 (.q 6 (.q 7 (.q 8 (.q 9 (.q 10 (.q 11 (.q 12 (.q 13 (.q 14 .nil))))))))))))))) (by kernel_rfl) (by kernel_rfl) ?_
              refine RS_m retB_noPanic rfl rfl rfl rfl (ev_move rfl) ?_
              (first | refine RS_m retB_noPanic rfl rfl rfl rfl (ev_nilCheck rfl) ?_ | refine RS_m retB_noPanic rfl rfl rfl rfl (ev_nilCheckF (by simp) rfl) ?_)
              refine RS_m retB_noPanic rfl rfl rfl rfl (ev_fieldAddr rfl) ?_
              refine RS_q retB_noPanic rfl rfl rfl rfl (ev_load rfl (by repeat' first | exact Ld.blk rfl | assumption | apply Ld.skip | apply Ld.app)) ?_
              (first | refine RS_m retB_noPanic rfl rfl rfl rfl (ev_neqNil rfl rfl) ?_ | refine RS_m retB_noPanic rfl rfl rfl rfl (ev_neqPtr rfl rfl) ?_)
              refine RS_m retB_noPanic rfl rfl rfl rfl (ev_move rfl) ?_
              refine RS_m_yes retB_noPanic rfl rfl rfl rfl ⟨_, rfl, (by first | rfl | (rw [PA.isN_addr', hn]; done) | (rw [PA.isN_addr', hn]; rfl))⟩ rfl (ev_fieldAddr rfl) ?_
              refine RS_q_yes retB_noPanic rfl rfl rfl rfl ⟨_, rfl, (by first | rfl | (rw [PA.isN_addr', hn]; done) | (rw [PA.isN_addr', hn]; rfl))⟩ rfl (ev_load rfl (by repeat' first | exact Ld.blk rfl | assumption | apply Ld.skip | apply Ld.app)) ?_
              refine RS_m_yes retB_noPanic rfl rfl rfl rfl ⟨_, rfl, (by first | rfl | (rw [PA.isN_addr', hn]; done) | (rw [PA.isN_addr', hn]; rfl))⟩ rfl (ev_move rfl) ?_
              (first | refine RS_m_yes retB_noPanic rfl rfl rfl rfl ⟨_, rfl, (by first | rfl | (rw [PA.isN_addr', hn]; done) | (rw [PA.isN_addr', hn]; rfl))⟩ rfl (ev_nilCheck rfl) ?_ | refine RS_m_yes retB_noPanic rfl rfl rfl rfl ⟨_, rfl, (by first | rfl | (rw [PA.isN_addr', hn]; done) | (rw [PA.isN_addr', hn]; rfl))⟩ rfl (ev_nilCheckF (by simp) rfl) ?_)
              refine RS_m_yes retB_noPanic rfl rfl rfl rfl ⟨_, rfl, (by first | rfl | (rw [PA.isN_addr', hn]; done) | (rw [PA.isN_addr', hn]; rfl))⟩ rfl (ev_fieldAddr rfl) ?_
              refine RS_m_yes retB_noPanic rfl rfl rfl rfl ⟨_, rfl, (by first | rfl | (rw [PA.isN_addr', hn]; done) | (rw [PA.isN_addr', hn]; rfl))⟩ rfl (ev_fieldAddr rfl) ?_
              refine RS_q_yes retB_noPanic rfl rfl rfl rfl ⟨_, rfl, (by first | rfl | (rw [PA.isN_addr', hn]; done) | (rw [PA.isN_addr', hn]; rfl))⟩ rfl (ev_load rfl (by repeat' first | exact Ld.blk rfl | assumption | apply Ld.skip | apply Ld.app)) ?_
              refine RS_m_yes retB_noPanic rfl rfl rfl rfl ⟨_, rfl, (by first | rfl | (rw [PA.isN_addr', hn]; done) | (rw [PA.isN_addr', hn]; rfl))⟩ rfl (ev_geq rfl rfl) ?_
              refine RS_m retB_noPanic rfl rfl rfl rfl (ev_pick_t rfl (by first | rfl | (rw [PA.isN_addr', hn]; done) | (rw [PA.isN_addr', hn]; rfl)) rfl) ?_
              refine RS_nil ?_
              (repeat first | refine G_seq ?_ | refine G_skip ?_ | refine G_endblk ?_ | refine G_block ?_ | refine G_exit rfl ?_)
              refine G_cond_t rfl (decide_eq_true hx) ?_
              (repeat first | refine G_seq ?_ | refine G_skip ?_ | refine G_endblk ?_ | refine G_block ?_ | refine G_exit rfl ?_)
              refine G_region ?_
              refine GO_q rfl rfl (ev_move rfl) ?_
              refine GO_q rfl rfl (ev_move rfl) ?_
              (first | refine GO_q rfl rfl (ev_nilCheck rfl) ?_ | refine GO_q rfl rfl (ev_nilCheckF (by simp) rfl) ?_)
              refine GO_q rfl rfl (ev_fieldAddr rfl) ?_
              refine GO_q rfl rfl (ev_load rfl (by repeat' first | exact Ld.blk rfl | assumption | apply Ld.skip | apply Ld.app)) ?_
              refine GO_eff rfl rfl (eff_buildSlice1 (by rfl) rfl rfl) ?_; rintro _ _ ⟨b60, rfl, rfl⟩
              refine GO_eff rfl rfl (eff_append rfl rfl (by repeat' first | exact Pick.here | apply Pick.skip) (by repeat' first | exact Rc.blk rfl | assumption | apply Rc.skip) (one_all rfl) (by rfl) (by decide) (by first | omega | (simp; done) | (simp; omega)) (by first | omega | (simp; done) | (simp; omega))) ?_; rintro _ _ ⟨A61, c61, rfl, hc61, hm61, hn61, rfl⟩
              refine GO_q rfl rfl (ev_assign rfl) ?_
              refine GO_nil ?_
              (repeat first | refine G_seq ?_ | refine G_skip ?_ | refine G_endblk ?_ | refine G_block ?_ | refine G_exit rfl ?_)
              exact G_inv (A61, c61) (fun _ => hn61 (by omega)) ⟨rfl, rfl, by simp only [List.length_append, List.length_singleton]; rfl, trivial⟩ (by
                simp only [List.length_append, List.length_singleton, addrs, List.map_append, List.map_cons, List.map_nil]
                rw [flat_append]
                exact (by (repeat first | exact en_refl | (apply en_blk; focus ((repeat' first | exact Pick.here | apply Pick.skip | apply Pick.app); done); focus rfl) | (apply en_own; focus ((repeat' first | exact Pick.here | apply Pick.skip | apply Pick.app); done); focus rfl) | (apply en_pick; focus ((repeat' first | exact Pick.here | apply Pick.skip | apply Pick.app); done)) | apply en_drop | apply en_app) <;> fail))
            · have el : l2 = [] := by rw [e2]; simp [hn, hx]
              subst el
              (repeat first | refine G_seq ?_ | refine G_skip ?_ | refine G_endblk ?_ | refine G_block ?_ | refine G_exit rfl ?_)
              refine G_draw (.q 0 (.q 1 (.q 2 (.q 3 (.q 4 (.q 5 (.q 6 (.q 7 (.q 8 (.q 9 (.q 10 (.q 11 (.q 12 (.q 13 (.q 14 .nil))))))))))))))) (by kernel_rfl) (by kernel_rfl) ?_
              refine RS_m retB_noPanic rfl rfl rfl rfl (ev_move rfl) ?_
              (first | refine RS_m retB_noPanic rfl rfl rfl rfl (ev_nilCheck rfl) ?_ | refine RS_m retB_noPanic rfl rfl rfl rfl (ev_nilCheckF (by simp) rfl) ?_)
              refine RS_m retB_noPanic rfl rfl rfl rfl (ev_fieldAddr rfl) ?_
              refine RS_q retB_noPanic rfl rfl rfl rfl (ev_load rfl (by repeat' first | exact Ld.blk rfl | assumption | apply Ld.skip | apply Ld.app)) ?_
              (first | refine RS_m retB_noPanic rfl rfl rfl rfl (ev_neqNil rfl rfl) ?_ | refine RS_m retB_noPanic rfl rfl rfl rfl (ev_neqPtr rfl rfl) ?_)
              refine RS_m retB_noPanic rfl rfl rfl rfl (ev_move rfl) ?_
              refine RS_m_yes retB_noPanic rfl rfl rfl rfl ⟨_, rfl, (by first | rfl | (rw [PA.isN_addr', hn]; done) | (rw [PA.isN_addr', hn]; rfl))⟩ rfl (ev_fieldAddr rfl) ?_
              refine RS_q_yes retB_noPanic rfl rfl rfl rfl ⟨_, rfl, (by first | rfl | (rw [PA.isN_addr', hn]; done) | (rw [PA.isN_addr', hn]; rfl))⟩ rfl (ev_load rfl (by repeat' first | exact Ld.blk rfl | assumption | apply Ld.skip | apply Ld.app)) ?_
              refine RS_m_yes retB_noPanic rfl rfl rfl rfl ⟨_, rfl, (by first | rfl | (rw [PA.isN_addr', hn]; done) | (rw [PA.isN_addr', hn]; rfl))⟩ rfl (ev_move rfl) ?_
              (first | refine RS_m_yes retB_noPanic rfl rfl rfl rfl ⟨_, rfl, (by first | rfl | (rw [PA.isN_addr', hn]; done) | (rw [PA.isN_addr', hn]; rfl))⟩ rfl (ev_nilCheck rfl) ?_ | refine RS_m_yes retB_noPanic rfl rfl rfl rfl ⟨_, rfl, (by first | rfl | (rw [PA.isN_addr', hn]; done) | (rw [PA.isN_addr', hn]; rfl))⟩ rfl (ev_nilCheckF (by simp) rfl) ?_)
              refine RS_m_yes retB_noPanic rfl rfl rfl rfl ⟨_, rfl, (by first | rfl | (rw [PA.isN_addr', hn]; done) | (rw [PA.isN_addr', hn]; rfl))⟩ rfl (ev_fieldAddr rfl) ?_
              refine RS_m_yes retB_noPanic rfl rfl rfl rfl ⟨_, rfl, (by first | rfl | (rw [PA.isN_addr', hn]; done) | (rw [PA.isN_addr', hn]; rfl))⟩ rfl (ev_fieldAddr rfl) ?_
              refine RS_q_yes retB_noPanic rfl rfl rfl rfl ⟨_, rfl, (by first | rfl | (rw [PA.isN_addr', hn]; done) | (rw [PA.isN_addr', hn]; rfl))⟩ rfl (ev_load rfl (by repeat' first | exact Ld.blk rfl | assumption | apply Ld.skip | apply Ld.app)) ?_
              refine RS_m_yes retB_noPanic rfl rfl rfl rfl ⟨_, rfl, (by first | rfl | (rw [PA.isN_addr', hn]; done) | (rw [PA.isN_addr', hn]; rfl))⟩ rfl (ev_geq rfl rfl) ?_
              refine RS_m retB_noPanic rfl rfl rfl rfl (ev_pick_t rfl (by first | rfl | (rw [PA.isN_addr', hn]; done) | (rw [PA.isN_addr', hn]; rfl)) rfl) ?_
              refine RS_nil ?_
              (repeat first | refine G_seq ?_ | refine G_skip ?_ | refine G_endblk ?_ | refine G_block ?_ | refine G_exit rfl ?_)
              refine G_cond_f rfl (decide_eq_false hx) ?_
              (repeat first | refine G_seq ?_ | refine G_skip ?_ | refine G_endblk ?_ | refine G_block ?_ | refine G_exit rfl ?_)
              exact G_inv (A1, c1) (fun h => hA (by simpa using h)) ⟨rfl, rfl, by rw [List.append_nil]; rfl, trivial⟩ (by rw [List.append_nil]; exact (by (repeat first | exact en_refl | (apply en_blk; focus ((repeat' first | exact Pick.here | apply Pick.skip | apply Pick.app); done); focus rfl) | (apply en_own; focus ((repeat' first | exact Pick.here | apply Pick.skip | apply Pick.app); done); focus rfl) | (apply en_pick; focus ((repeat' first | exact Pick.here | apply Pick.skip | apply Pick.app); done)) | apply en_drop | apply en_app) <;> fail))
        · rintro ⟨A2, c2⟩ hA2
          simp only at hA2
          dsimp only
          (repeat first | refine G_seq ?_ | refine G_skip ?_ | refine G_endblk ?_ | refine G_block ?_ | refine G_exit rfl ?_)
          refine G_draw (.q 0 (.q 1 (.q 2 (.q 3 (.q 4 (.q 6 (.e 5 (.q 7 (.q 8 .nil))))))))) (by kernel_rfl) (by kernel_rfl) ?_
          refine RS_q retB_noPanic rfl rfl rfl rfl (ev_loadN rfl (by repeat' first | exact LdN.blk rfl | assumption | apply LdN.skip | apply LdN.app)) ?_
          refine RS_m retB_noPanic rfl rfl rfl rfl (ev_move rfl) ?_
          (first | refine RS_m retB_noPanic rfl rfl rfl rfl (ev_nilCheck rfl) ?_ | refine RS_m retB_noPanic rfl rfl rfl rfl (ev_nilCheckF (by simp) rfl) ?_)
          refine RS_m retB_noPanic rfl rfl rfl rfl (ev_fieldAddr rfl) ?_
          refine RS_q retB_noPanic rfl rfl rfl rfl (ev_loadN rfl (by repeat' first | exact LdN.blk rfl | assumption | apply LdN.skip | apply LdN.app)) ?_
          refine RS_m retB_noPanic rfl rfl rfl rfl (ev_move rfl) ?_
          refine RS_e (RE_eff rfl rfl rfl (eff_call rfl (Sees_ctr w p _)) ?_); rintro _ _ ⟨rfl, rfl⟩; refine ⟨_, fun _ s => s, (by first | ((repeat first | exact fun _ s => s | apply en_keep | apply en_drop | apply en_app) <;> fail) | ((repeat first | exact en_refl | (apply en_blk; focus ((repeat' first | exact Pick.here | apply Pick.skip | apply Pick.app); done); focus rfl) | (apply en_own; focus ((repeat' first | exact Pick.here | apply Pick.skip | apply Pick.app); done); focus rfl) | (apply en_pick; focus ((repeat' first | exact Pick.here | apply Pick.skip | apply Pick.app); done)) | apply en_drop | apply en_app) <;> fail)), ?_⟩
          refine RS_m retB_noPanic rfl rfl rfl rfl (ev_assign rfl) ?_
          refine RS_m retB_noPanic rfl rfl rfl rfl (ev_assign rfl) ?_
          refine RS_nil ?_
          (repeat first | refine G_seq ?_ | refine G_skip ?_ | refine G_endblk ?_ | refine G_block ?_ | refine G_exit rfl ?_)
          exact G_ret (L' := own 67 1 A2 (l1 ++ l2).length c2 (flat (addrs (l1 ++ l2))) :: L) rfl (.tmp rfl (.tmp rfl .nil)) (by (repeat first | exact en_refl | (apply en_blk; focus ((repeat' first | exact Pick.here | apply Pick.skip | apply Pick.app); done); focus rfl) | (apply en_own; focus ((repeat' first | exact Pick.here | apply Pick.skip | apply Pick.app); done); focus rfl) | (apply en_pick; focus ((repeat' first | exact Pick.here | apply Pick.skip | apply Pick.app); done)) | apply en_drop | apply en_app) <;> fail) ⟨A2, c2, rfl, hA2, rfl⟩
end Go.Proofs.Ytalcanejhniepaa
/- The references' lists of numbers. -/
namespace Go.Proofs.Ytalcanejhniepaa
attribute [local irreducible] sat
set_option linter.unusedVariables false
set_option linter.unusedSimpArgs false
set_option maxRecDepth 100000

theorem Same_ctr (A B : Option Addr) (n m c d : Nat) (l q : List Int) (L : List HP) (hl : Rd L A n l) (hq : Rd L B m q) (hn : n ≤ 9223372036854775807) :
    Ctr Try.prog 20 #[.slice A n c, .slice B m d] L fun v L' => v = .bool (decide (l = q)) ∧ L' = L := by
  have h1 : l.length = n := hl.len (by decide)
  have h2 : q.length = m := hq.len (by decide)
  refine Ctr_of (fn := Try.f20) (n := 26) Try.func20 rfl rfl rfl ?_
  intro g F
  (repeat first | refine G_seq ?_ | refine G_skip ?_ | refine G_endblk ?_ | refine G_block ?_ | refine G_exit rfl ?_)
  refine G_region ?_
  refine GO_q rfl rfl (ev_assign rfl) ?_
  refine GO_nil ?_
  (repeat first | refine G_seq ?_ | refine G_skip ?_ | refine G_endblk ?_ | refine G_block ?_ | refine G_exit rfl ?_)
  refine G_region ?_
  refine GO_q rfl rfl (ev_move rfl) ?_
  refine GO_q rfl rfl (ev_len rfl) ?_
  refine GO_q rfl rfl (ev_move rfl) ?_
  refine GO_q rfl rfl (ev_len rfl) ?_
  refine GO_q rfl rfl (ev_neq rfl rfl) ?_
  refine GO_nil ?_
  (repeat first | refine G_seq ?_ | refine G_skip ?_ | refine G_endblk ?_ | refine G_block ?_ | refine G_exit rfl ?_)
  refine G_cond rfl (fun h3 => ?_) (fun h3 => ?_)
  · (repeat first | refine G_seq ?_ | refine G_skip ?_ | refine G_endblk ?_ | refine G_block ?_ | refine G_exit rfl ?_)
    refine G_region ?_
    refine GO_q rfl rfl (ev_assign rfl) ?_
    refine GO_nil ?_
    (repeat first | refine G_seq ?_ | refine G_skip ?_ | refine G_endblk ?_ | refine G_block ?_ | refine G_exit rfl ?_)
    refine G_ret rfl (.tmp rfl .nil) (by (repeat first | exact fun _ s => s | apply en_keep | apply en_drop | apply en_app) <;> fail) ⟨by simp [retv]; intro h; subst h; omega, rfl⟩
  · have e : n = m := by omega
    subst e
    (repeat first | refine G_seq ?_ | refine G_skip ?_ | refine G_endblk ?_ | refine G_block ?_ | refine G_exit rfl ?_)
    refine G_region ?_
    refine GO_q rfl rfl (ev_assign rfl) ?_
    refine GO_nil ?_
    (repeat first | refine G_seq ?_ | refine G_skip ?_ | refine G_endblk ?_ | refine G_block ?_ | refine G_exit rfl ?_)
    refine G_loop (ι := Nat) (fun k => [(0, .slice A n c), (1, .slice B n d), (5, .int .i64 (k : Nat))]) (fun _ => F :: L) (fun k => k ≤ n ∧ l.take k = q.take k) (fun k => n - k) 0 ⟨Nat.zero_le _, rfl⟩ ⟨rfl, rfl, rfl, trivial⟩ (by (repeat first | exact fun _ s => s | apply en_keep | apply en_drop | apply en_app) <;> fail) ?_
    rintro k ⟨hk, ht⟩
    (repeat first | refine G_seq ?_ | refine G_skip ?_ | refine G_endblk ?_ | refine G_block ?_ | refine G_exit rfl ?_)
    refine G_region ?_
    refine GO_q rfl rfl (ev_move rfl) ?_
    refine GO_q rfl rfl (ev_move rfl) ?_
    refine GO_q rfl rfl (ev_len rfl) ?_
    (first | refine GO_q rfl rfl (ev_lssN rfl rfl) ?_ | refine GO_q rfl rfl (ev_lss rfl rfl) ?_)
    refine GO_nil ?_
    (repeat first | refine G_seq ?_ | refine G_skip ?_ | refine G_endblk ?_ | refine G_block ?_ | refine G_exit rfl ?_)
    refine G_cond rfl (fun h4 => ?_) (fun h4 => ?_)
    · obtain ⟨b1, o1, rfl, x1⟩ := hl.at_ (by omega)
      obtain ⟨b2, o2, rfl, x2⟩ := hq.at_ (by omega)
      have g1 : l[k]? = some l[k] := List.getElem?_eq_getElem (by omega)
      have g2 : q[k]? = some q[k] := List.getElem?_eq_getElem (by omega)
      have y1 := (x1 _ _ g1).at_ (i := 0) rfl
      have y2 := (x2 _ _ g2).at_ (i := 0) rfl
      have s1 : l.take (k + 1) = l.take k ++ [l[k]] := List.take_succ_eq_append_getElem (by omega)
      have s2 : q.take (k + 1) = q.take k ++ [q[k]] := List.take_succ_eq_append_getElem (by omega)
      generalize l[k] = u at *
      generalize q[k] = v at *
      have z1 : Ld L ⟨b1, o1 + k * 1, none⟩ (.int .i64 u) := y1
      have z2 : Ld L ⟨b2, o2 + k * 1, none⟩ (.int .i64 v) := y2
      (repeat first | refine G_seq ?_ | refine G_skip ?_ | refine G_endblk ?_ | refine G_block ?_ | refine G_exit rfl ?_)
      refine G_draw (.q 0 (.q 1 (.q 2 (.q 3 (.q 4 (.q 5 (.q 6 (.q 7 (.q 8 .nil))))))))) (by kernel_rfl) (by kernel_rfl) ?_
      refine RS_m retB_noPanic rfl rfl rfl rfl (ev_move rfl) ?_
      refine RS_m retB_noPanic rfl rfl rfl rfl (ev_move rfl) ?_
      (first | refine RS_m retB_noPanic rfl rfl rfl rfl (ev_indexAddrN rfl rfl (by first | omega | (simp; done) | (simp; omega))) ?_ | refine RS_m retB_noPanic rfl rfl rfl rfl (ev_indexAddr rfl rfl (by first | omega | (simp; done) | (simp; omega)) (by first | omega | (simp; done) | (simp; omega))) ?_)
      refine RS_q retB_noPanic rfl rfl rfl rfl (ev_load rfl (by repeat' first | exact Ld.blk rfl | assumption | apply Ld.skip | apply Ld.app)) ?_
      refine RS_m retB_noPanic rfl rfl rfl rfl (ev_move rfl) ?_
      refine RS_m retB_noPanic rfl rfl rfl rfl (ev_move rfl) ?_
      (first | refine RS_m retB_noPanic rfl rfl rfl rfl (ev_indexAddrN rfl rfl (by first | omega | (simp; done) | (simp; omega))) ?_ | refine RS_m retB_noPanic rfl rfl rfl rfl (ev_indexAddr rfl rfl (by first | omega | (simp; done) | (simp; omega)) (by first | omega | (simp; done) | (simp; omega))) ?_)
      refine RS_q retB_noPanic rfl rfl rfl rfl (ev_load rfl (by repeat' first | exact Ld.blk rfl | assumption | apply Ld.skip | apply Ld.app)) ?_
      refine RS_m retB_noPanic rfl rfl rfl rfl (ev_neq rfl rfl) ?_
      refine RS_nil ?_
      (repeat first | refine G_seq ?_ | refine G_skip ?_ | refine G_endblk ?_ | refine G_block ?_ | refine G_exit rfl ?_)
      refine G_cond rfl (fun h5 => ?_) (fun h5 => ?_)
      · (repeat first | refine G_seq ?_ | refine G_skip ?_ | refine G_endblk ?_ | refine G_block ?_ | refine G_exit rfl ?_)
        refine G_region ?_
        refine GO_q rfl rfl (ev_assign rfl) ?_
        refine GO_nil ?_
        (repeat first | refine G_seq ?_ | refine G_skip ?_ | refine G_endblk ?_ | refine G_block ?_ | refine G_exit rfl ?_)
        refine G_ret rfl (.tmp rfl .nil) (by (repeat first | exact fun _ s => s | apply en_keep | apply en_drop | apply en_app) <;> fail) ⟨by simp [retv]; intro h; subst h; exact h5 (by rw [g1] at g2; exact Option.some.inj g2), rfl⟩
      · have e : u = v := by omega
        (repeat first | refine G_seq ?_ | refine G_skip ?_ | refine G_endblk ?_ | refine G_block ?_ | refine G_exit rfl ?_)
        refine G_region ?_
        refine GO_q rfl rfl (ev_move rfl) ?_
        (first | refine GO_q rfl rfl (ev_addN (q := 1) rfl rfl (by first | omega | (simp; done) | (simp; omega))) ?_ | refine GO_q rfl rfl (ev_add rfl rfl (by first | omega | (simp; done) | (simp; omega))) ?_)
        refine GO_q rfl rfl (ev_assign rfl) ?_
        refine GO_nil ?_
        (repeat first | refine G_seq ?_ | refine G_skip ?_ | refine G_endblk ?_ | refine G_block ?_ | refine G_exit rfl ?_)
        exact G_round (k + 1) ⟨by omega, by rw [s1, s2, ht, e]⟩ (by omega) ⟨rfl, rfl, rfl, trivial⟩ (by (repeat first | exact fun _ s => s | apply en_keep | apply en_drop | apply en_app) <;> fail)
    · have e : k = n := by omega
      subst e
      have : l = q := by rwa [List.take_of_length_le (by omega), List.take_of_length_le (by omega)] at ht
      (repeat first | refine G_seq ?_ | refine G_skip ?_ | refine G_endblk ?_ | refine G_block ?_ | refine G_exit rfl ?_)
      refine G_region ?_
      refine GO_q rfl rfl (ev_assign rfl) ?_
      refine GO_nil ?_
      (repeat first | refine G_seq ?_ | refine G_skip ?_ | refine G_endblk ?_ | refine G_block ?_ | refine G_exit rfl ?_)
      refine G_ret rfl (.tmp rfl .nil) (by (repeat first | exact fun _ s => s | apply en_keep | apply en_drop | apply en_app) <;> fail) ⟨by simp [retv, this], rfl⟩

/-- A number put in, behind those that are not greater. -/
def ins (x : Int) (l : List Int) : List Int := l.takeWhile (fun y => decide (y ≤ x)) ++ x :: l.dropWhile (fun y => decide (y ≤ x))
def rising (l : List Int) : List Int := l.foldl (fun o x => ins x o) []
theorem ins_length (x : Int) (l : List Int) : (ins x l).length = l.length + 1 := by
  unfold ins
  have := congrArg List.length (List.takeWhile_append_dropWhile (p := fun y => decide (y ≤ x)) (l := l))
  rw [List.length_append] at this
  rw [List.length_append, List.length_cons]
  omega
theorem ins_at (x : Int) (l : List Int) (k : Nat) (hk : k = (l.takeWhile (fun y => decide (y ≤ x))).length) : ins x l = l.take k ++ [x] ++ l.drop k := by
  have h := List.takeWhile_append_dropWhile (p := fun y => decide (y ≤ x)) (l := l)
  have h1 : l.take k = l.takeWhile (fun y => decide (y ≤ x)) := by
    conv => lhs; rw [← h]
    rw [hk, List.take_left]
  have h2 : l.drop k = l.dropWhile (fun y => decide (y ≤ x)) := by
    conv => lhs; rw [← h]
    rw [hk, List.drop_left]
  rw [h1, h2]
  simp [ins]
theorem tw_lt {p : Int → Bool} : ∀ {l : List Int} {k : Nat}, k < (l.takeWhile p).length → ∃ v, l[k]? = some v ∧ p v = true
  | [], k, h => by simp at h
  | a :: l, k, h => by
    rw [List.takeWhile_cons] at h
    cases ha : p a with
    | false => rw [ha] at h; simp at h
    | true =>
      rw [ha] at h
      cases k with
      | zero => exact ⟨a, rfl, ha⟩
      | succ k =>
        obtain ⟨v, h1, h2⟩ := tw_lt (l := l) (k := k) (by simpa using h)
        exact ⟨v, by simpa using h1, h2⟩
theorem tw_at {p : Int → Bool} : ∀ {l : List Int} {v : Int}, l[(l.takeWhile p).length]? = some v → p v = false
  | [], v, h => by simp at h
  | a :: l, v, h => by
    cases ha : p a with
    | false =>
      rw [List.takeWhile_cons, ha] at h
      simp at h; subst h; exact ha
    | true =>
      rw [List.takeWhile_cons, ha] at h
      exact tw_at (l := l) (by simpa using h)
theorem Rising_ctr (A : Option Addr) (n c : Nat) (l : List Int) (L : List HP) (hl : Rd L A n l) (hn : n ≤ 100000) :
    Ctr Try.prog 37 #[.slice A n c] L fun v L' => ∃ A' c' N, v = .slice A' (rising l).length c' ∧ (rising l).length ≤ c' ∧ c' ≤ maxLen ∧ L' = N ++ L ∧ Rd (N ++ L) A' (rising l).length (rising l) := by
  have h1 : l.length = n := hl.len (by decide)
  refine Ctr_of (fn := Try.f37) (n := 46) Try.func37 rfl rfl rfl ?_
  intro g F
  (repeat first | refine G_seq ?_ | refine G_skip ?_ | refine G_endblk ?_ | refine G_block ?_ | refine G_exit rfl ?_)
  refine G_region ?_
  refine GO_q rfl rfl (ev_assign rfl) ?_
  refine GO_nil ?_
  (repeat first | refine G_seq ?_ | refine G_skip ?_ | refine G_endblk ?_ | refine G_block ?_ | refine G_exit rfl ?_)
  refine G_region ?_
  refine GO_eff rfl rfl eff_buildSlice0 ?_; rintro _ _ ⟨b6, rfl, rfl⟩
  refine GO_q rfl rfl (ev_assign rfl) ?_
  refine GO_nil ?_
  (repeat first | refine G_seq ?_ | refine G_skip ?_ | refine G_endblk ?_ | refine G_block ?_ | refine G_exit rfl ?_)
  refine G_region ?_
  refine GO_q rfl rfl (ev_assign rfl) ?_
  refine GO_nil ?_
  (repeat first | refine G_seq ?_ | refine G_skip ?_ | refine G_endblk ?_ | refine G_block ?_ | refine G_exit rfl ?_)
  refine G_loop (ι := Nat × Nat × Nat × List Int) (fun x => [(0, .slice A n c), (3, .slice (some ⟨x.2.1, 0, none⟩) x.2.2.2.length x.2.2.1), (4, .int .i64 (x.1 : Nat))]) (fun x => own 3 1 (some ⟨x.2.1, 0, none⟩) x.2.2.2.length x.2.2.1 (flat x.2.2.2) :: F :: L)
    (fun x => x.1 ≤ n ∧ x.2.2.2 = rising (l.take x.1) ∧ x.2.2.2.length = x.1 ∧ x.2.2.2.length ≤ x.2.2.1 ∧ x.2.2.1 ≤ maxLen) (fun x => n - x.1) (0, b6, 0, []) ⟨Nat.zero_le _, by simp [rising], rfl, Nat.le_refl _, Nat.zero_le _⟩ ⟨rfl, rfl, rfl, trivial⟩ (by (repeat first | exact fun _ s => s | apply en_keep | apply en_drop | apply en_app) <;> fail) ?_
  rintro ⟨i, b, d, out⟩ ⟨f1, f2, f3, f4, f5⟩
  simp only at f1 f2 f3 f4 f5
  dsimp only
  have f6 := f5
  unfold maxLen at f6
  (repeat first | refine G_seq ?_ | refine G_skip ?_ | refine G_endblk ?_ | refine G_block ?_ | refine G_exit rfl ?_)
  refine G_region ?_
  refine GO_q rfl rfl (ev_move rfl) ?_
  refine GO_q rfl rfl (ev_move rfl) ?_
  refine GO_q rfl rfl (ev_len rfl) ?_
  (first | refine GO_q rfl rfl (ev_lssN rfl rfl) ?_ | refine GO_q rfl rfl (ev_lss rfl rfl) ?_)
  refine GO_nil ?_
  (repeat first | refine G_seq ?_ | refine G_skip ?_ | refine G_endblk ?_ | refine G_block ?_ | refine G_exit rfl ?_)
  refine G_cond rfl (fun c1 => ?_) (fun c1 => ?_)
  · obtain ⟨lb, lo, rfl, hx⟩ := hl.at_ (by omega)
    have hg : l[i]? = some l[i] := List.getElem?_eq_getElem (by omega)
    have hs : rising (l.take (i + 1)) = ins l[i] (rising (l.take i)) := by
      unfold rising; rw [List.take_succ_eq_append_getElem (by omega), List.foldl_append]; rfl
    have y1 := (hx _ _ hg).at_ (i := 0) rfl
    generalize l[i] = x at *
    have y2 : Ld L ⟨lb, lo + i * 1, none⟩ (.int .i64 x) := y1
    obtain ⟨w, hw⟩ : ∃ w, w = (out.takeWhile (fun y => decide (y ≤ x))).length := ⟨_, rfl⟩
    have hwl : w ≤ out.length := by rw [hw]; exact (List.takeWhile_prefix _).length_le
    have hin := ins_at x out w hw
    have hout : Rd (own 3 1 (some ⟨b, 0, none⟩) out.length d (flat out) :: F :: L) (some ⟨b, 0, none⟩) out.length out := Rc.own (flat_length out) (fun _ => ⟨b, rfl⟩)
    (repeat first | refine G_seq ?_ | refine G_skip ?_ | refine G_endblk ?_ | refine G_block ?_ | refine G_exit rfl ?_)
    refine G_region ?_
    refine GO_q rfl rfl (ev_assign rfl) ?_
    refine GO_nil ?_
    (repeat first | refine G_seq ?_ | refine G_skip ?_ | refine G_endblk ?_ | refine G_block ?_ | refine G_exit rfl ?_)
    refine G_loop (ι := Nat) (fun k => [(0, .slice (some ⟨lb, lo, none⟩) n c), (3, .slice (some ⟨b, 0, none⟩) out.length d), (4, .int .i64 (i : Nat)), (5, .int .i64 (k : Nat))]) (fun _ => own 3 1 (some ⟨b, 0, none⟩) out.length d (flat out) :: F :: L) (fun k => k ≤ w) (fun k => w - k) 0 (Nat.zero_le _) ⟨rfl, rfl, rfl, rfl, trivial⟩ (fun _ s => s) ?_
    intro k hk
    by_cases hko : k < out.length
    · obtain ⟨_, _, e9, hx2⟩ := hout.at_ (by omega)
      cases e9
      have hg2 : out[k]? = some out[k] := List.getElem?_eq_getElem hko
      have y3 := (hx2 _ _ hg2).at_ (i := 0) rfl
      have q1 : k < w → out[k] ≤ x := fun h => by
        obtain ⟨v, a1, a2⟩ := tw_lt (l := out) (k := k) (by rw [← hw]; exact h)
        rw [hg2] at a1; cases a1; simpa using a2
      have q2 : k = w → ¬ out[k] ≤ x := fun h => by
        have := tw_at (p := fun y => decide (y ≤ x)) (l := out) (v := out[k]) (by rw [← hw, ← h]; exact hg2)
        simpa using this
      generalize out[k] = u at *
      have y4 : Ld (own 3 1 (some ⟨b, 0, none⟩) out.length d (flat out) :: F :: L) ⟨b, 0 + k * 1, none⟩ (.int .i64 u) := y3
      have y5 : Ld (own 3 1 (some ⟨b, 0, none⟩) out.length d (flat out) :: F :: L) ⟨lb, lo + i * 1, none⟩ (.int .i64 x) := y2.skip.skip
      (repeat first | refine G_seq ?_ | refine G_skip ?_ | refine G_endblk ?_ | refine G_block ?_ | refine G_exit rfl ?_)
      refine G_draw (.q 0 (.q 1 (.q 2 (.q 3 (.q 4 (.q 5 (.q 6 (.q 7 (.q 8 (.q 9 (.q 10 (.q 11 (.q 12 (.q 13 (.q 14 .nil))))))))))))))) (by kernel_rfl) (by kernel_rfl) ?_
      refine RS_m retB_noPanic rfl rfl rfl rfl (ev_move rfl) ?_
      refine RS_m retB_noPanic rfl rfl rfl rfl (ev_move rfl) ?_
      refine RS_q retB_noPanic rfl rfl rfl rfl (ev_len rfl) ?_
      (first | refine RS_m retB_noPanic rfl rfl rfl rfl (ev_lssN rfl rfl) ?_ | refine RS_m retB_noPanic rfl rfl rfl rfl (ev_lss rfl rfl) ?_)
      refine RS_m retB_noPanic rfl rfl rfl rfl (ev_move rfl) ?_
      refine RS_m_yes retB_noPanic rfl rfl rfl rfl ⟨_, rfl, (decide_eq_true hko)⟩ rfl (ev_move rfl) ?_
      refine RS_m_yes retB_noPanic rfl rfl rfl rfl ⟨_, rfl, (decide_eq_true hko)⟩ rfl (ev_move rfl) ?_
      (first | refine RS_m_yes retB_noPanic rfl rfl rfl rfl ⟨_, rfl, (decide_eq_true hko)⟩ rfl (ev_indexAddrN rfl rfl (by first | omega | (simp; done) | (simp; omega))) ?_ | refine RS_m_yes retB_noPanic rfl rfl rfl rfl ⟨_, rfl, (decide_eq_true hko)⟩ rfl (ev_indexAddr rfl rfl (by first | omega | (simp; done) | (simp; omega)) (by first | omega | (simp; done) | (simp; omega))) ?_)
      refine RS_q_yes retB_noPanic rfl rfl rfl rfl ⟨_, rfl, (decide_eq_true hko)⟩ rfl (ev_load rfl (by repeat' first | exact Ld.blk rfl | assumption | apply Ld.skip | apply Ld.app)) ?_
      refine RS_m_yes retB_noPanic rfl rfl rfl rfl ⟨_, rfl, (decide_eq_true hko)⟩ rfl (ev_move rfl) ?_
      refine RS_m_yes retB_noPanic rfl rfl rfl rfl ⟨_, rfl, (decide_eq_true hko)⟩ rfl (ev_move rfl) ?_
      (first | refine RS_m_yes retB_noPanic rfl rfl rfl rfl ⟨_, rfl, (decide_eq_true hko)⟩ rfl (ev_indexAddrN rfl rfl (by first | omega | (simp; done) | (simp; omega))) ?_ | refine RS_m_yes retB_noPanic rfl rfl rfl rfl ⟨_, rfl, (decide_eq_true hko)⟩ rfl (ev_indexAddr rfl rfl (by first | omega | (simp; done) | (simp; omega)) (by first | omega | (simp; done) | (simp; omega))) ?_)
      refine RS_q_yes retB_noPanic rfl rfl rfl rfl ⟨_, rfl, (decide_eq_true hko)⟩ rfl (ev_load rfl (by repeat' first | exact Ld.blk rfl | assumption | apply Ld.skip | apply Ld.app)) ?_
      refine RS_m_yes retB_noPanic rfl rfl rfl rfl ⟨_, rfl, (decide_eq_true hko)⟩ rfl (ev_leq rfl rfl) ?_
      refine RS_m retB_noPanic rfl rfl rfl rfl (ev_pick_t rfl (decide_eq_true hko) rfl) ?_
      refine RS_nil ?_
      (repeat first | refine G_seq ?_ | refine G_skip ?_ | refine G_endblk ?_ | refine G_block ?_ | refine G_exit rfl ?_)
      refine G_cond rfl (fun c2 => ?_) (fun c2 => ?_)
      · (repeat first | refine G_seq ?_ | refine G_skip ?_ | refine G_endblk ?_ | refine G_block ?_ | refine G_exit rfl ?_)
        refine G_region ?_
        refine GO_q rfl rfl (ev_move rfl) ?_
        (first | refine GO_q rfl rfl (ev_addN (q := 1) rfl rfl (by first | omega | (simp; done) | (simp; omega))) ?_ | refine GO_q rfl rfl (ev_add rfl rfl (by first | omega | (simp; done) | (simp; omega))) ?_)
        refine GO_q rfl rfl (ev_assign rfl) ?_
        refine GO_nil ?_
        (repeat first | refine G_seq ?_ | refine G_skip ?_ | refine G_endblk ?_ | refine G_block ?_ | refine G_exit rfl ?_)
        exact G_round (k + 1) (by
          rcases Nat.lt_or_ge k w with h | h
          · exact h
          · exact absurd c2 (q2 (by omega))) (by
          rcases Nat.lt_or_ge k w with h | h
          · omega
          · exact absurd c2 (q2 (by omega))) ⟨rfl, rfl, rfl, rfl, trivial⟩ (fun _ s => s)
      · have e : k = w := by
          rcases Nat.lt_or_ge k w with h | h
          · exact absurd (q1 h) c2
          · omega
        subst e
        (repeat first | refine G_seq ?_ | refine G_skip ?_ | refine G_endblk ?_ | refine G_block ?_ | refine G_exit rfl ?_)
        have m1 : Rc (own 3 1 (some ⟨b, 0, none⟩) out.length d (flat out) :: F :: L) 1 (some ⟨b, 0, none⟩) k (flat (out.take k)) := hout.take hwl
        have m2 : Rc (own 3 1 (some ⟨b, 0, none⟩) out.length d (flat out) :: F :: L) 1 (some ⟨b, (if d = k then 0 else 0 + k * 1), none⟩) (out.length - k) (flat (out.drop k)) := hout.drop hwl f4
        have y6 : Ld (own 3 1 (some ⟨b, 0, none⟩) out.length d (flat out) :: F :: L) ⟨lb, lo + i * 1, none⟩ (.int .i64 x) := y2.skip.skip
        have nn : 0 + k + 1 + (out.length - k) = (ins x out).length := by rw [ins_length]; omega
        have n2 : (ins x out).length = i + 1 := by rw [ins_length]; omega
        (repeat first | refine G_seq ?_ | refine G_skip ?_ | refine G_endblk ?_ | refine G_block ?_ | refine G_exit rfl ?_)
        refine G_draw (.q 1 (.q 2 (.q 3 (.q 5 (.q 6 (.q 7 (.q 8 (.q 11 (.q 12 (.q 13 (.br 0 (.br 4 (.e 9 (.e 10 (.e 14 (.q 15 .nil)))) 9 (.e 4 (.e 10 (.e 14 (.q 15 .nil))))) 9 (.e 0 (.e 4 (.e 10 (.e 14 (.q 15 .nil)))))))))))))))) (by kernel_rfl) (by kernel_rfl) ?_
        refine RS_m retB_noPanic rfl rfl rfl rfl (ev_move rfl) ?_
        refine RS_m retB_noPanic rfl rfl rfl rfl (ev_move rfl) ?_
        refine RS_q retB_noPanic rfl rfl rfl rfl (ev_sliceH rfl rfl (by first | omega | (simp; done) | (simp; omega))) ?_
        refine RS_m retB_noPanic rfl rfl rfl rfl (ev_move rfl) ?_
        refine RS_m retB_noPanic rfl rfl rfl rfl (ev_move rfl) ?_
        (first | refine RS_m retB_noPanic rfl rfl rfl rfl (ev_indexAddrN rfl rfl (by first | omega | (simp; done) | (simp; omega))) ?_ | refine RS_m retB_noPanic rfl rfl rfl rfl (ev_indexAddr rfl rfl (by first | omega | (simp; done) | (simp; omega)) (by first | omega | (simp; done) | (simp; omega))) ?_)
        refine RS_q retB_noPanic rfl rfl rfl rfl (ev_load rfl (by repeat' first | exact Ld.blk rfl | assumption | apply Ld.skip | apply Ld.app)) ?_
        refine RS_m retB_noPanic rfl rfl rfl rfl (ev_move rfl) ?_
        refine RS_m retB_noPanic rfl rfl rfl rfl (ev_move rfl) ?_
        refine RS_q retB_noPanic rfl rfl rfl rfl (ev_sliceL rfl rfl (by first | omega | (simp; done) | (simp; omega)) (by first | omega | (simp; done) | (simp; omega))) ?_
        refine RS_br ?x1_0 ?x1_1
        case' x1_1 =>
          refine RE_eff rfl rfl rfl (eff_buildSlice1 (by rfl) rfl rfl) ?_; rintro _ _ ⟨b39, rfl, rfl⟩; refine ⟨_, (by first | ((repeat first | exact fun _ s => s | apply en_keep | apply en_drop | apply en_app) <;> fail) | ((repeat first | exact en_refl | (apply en_blk; focus ((repeat' first | exact Pick.here | apply Pick.skip | apply Pick.app); done); focus rfl) | (apply en_own; focus ((repeat' first | exact Pick.here | apply Pick.skip | apply Pick.app); done); focus rfl) | (apply en_pick; focus ((repeat' first | exact Pick.here | apply Pick.skip | apply Pick.app); done)) | apply en_drop | apply en_app) <;> fail)), fun _ s => s, ?_⟩
          refine RS_e (RE_eff rfl rfl rfl eff_buildSlice0 ?_); rintro _ _ ⟨b30, rfl, rfl⟩; refine ⟨_, (by first | ((repeat first | exact fun _ s => s | apply en_keep | apply en_drop | apply en_app) <;> fail) | ((repeat first | exact en_refl | (apply en_blk; focus ((repeat' first | exact Pick.here | apply Pick.skip | apply Pick.app); done); focus rfl) | (apply en_own; focus ((repeat' first | exact Pick.here | apply Pick.skip | apply Pick.app); done); focus rfl) | (apply en_pick; focus ((repeat' first | exact Pick.here | apply Pick.skip | apply Pick.app); done)) | apply en_drop | apply en_app) <;> fail)), fun _ s => s, ?_⟩
          refine RS_e (RE_eff rfl rfl rfl (eff_append rfl rfl (by repeat' first | exact Pick.here | apply Pick.skip) ((by repeat' first | assumption | apply Rc.skip)) ((flat_one _)) (by rfl) (by decide) (by first | omega | (simp; done) | (simp; omega)) (by first | omega | (simp; done) | (simp; omega))) ?_); rintro _ _ ⟨A34, c34, rfl, hc34, hm34, hn34, rfl⟩; refine ⟨_, (by first | ((repeat first | exact fun _ s => s | apply en_keep | apply en_drop | apply en_app) <;> fail) | ((repeat first | exact en_refl | (apply en_blk; focus ((repeat' first | exact Pick.here | apply Pick.skip | apply Pick.app); done); focus rfl) | (apply en_own; focus ((repeat' first | exact Pick.here | apply Pick.skip | apply Pick.app); done); focus rfl) | (apply en_pick; focus ((repeat' first | exact Pick.here | apply Pick.skip | apply Pick.app); done)) | apply en_drop | apply en_app) <;> fail)), fun _ s => s, ?_⟩
          refine RS_e (RE_eff rfl rfl rfl (eff_append rfl rfl (by repeat' first | exact Pick.here | apply Pick.skip) (by repeat' first | exact Rc.blk rfl | assumption | apply Rc.skip) (one_all rfl) (by rfl) (by decide) (by first | omega | (simp; done) | (simp; omega)) (by first | omega | (simp; done) | (simp; omega))) ?_); rintro _ _ ⟨A40, c40, rfl, hc40, hm40, hn40, rfl⟩; refine ⟨_, (by first | ((repeat first | exact fun _ s => s | apply en_keep | apply en_drop | apply en_app) <;> fail) | ((repeat first | exact en_refl | (apply en_blk; focus ((repeat' first | exact Pick.here | apply Pick.skip | apply Pick.app); done); focus rfl) | (apply en_own; focus ((repeat' first | exact Pick.here | apply Pick.skip | apply Pick.app); done); focus rfl) | (apply en_pick; focus ((repeat' first | exact Pick.here | apply Pick.skip | apply Pick.app); done)) | apply en_drop | apply en_app) <;> fail)), fun _ s => s, ?_⟩
          refine RS_e (RE_eff rfl rfl rfl (eff_append rfl rfl (by repeat' first | exact Pick.here | apply Pick.skip) ((by repeat' first | assumption | apply Rc.skip)) ((flat_one _)) (by rfl) (by decide) (by first | omega | (simp; done) | (simp; omega)) (by first | omega | (simp; done) | (simp; omega))) ?_); rintro _ _ ⟨A44, c44, rfl, hc44, hm44, hn44, rfl⟩; refine ⟨_, (by first | ((repeat first | exact fun _ s => s | apply en_keep | apply en_drop | apply en_app) <;> fail) | ((repeat first | exact en_refl | (apply en_blk; focus ((repeat' first | exact Pick.here | apply Pick.skip | apply Pick.app); done); focus rfl) | (apply en_own; focus ((repeat' first | exact Pick.here | apply Pick.skip | apply Pick.app); done); focus rfl) | (apply en_pick; focus ((repeat' first | exact Pick.here | apply Pick.skip | apply Pick.app); done)) | apply en_drop | apply en_app) <;> fail)), fun _ s => s, ?_⟩
          refine RS_m retB_noPanic rfl rfl rfl rfl (ev_assign rfl) ?_
          refine RS_nil ?_
        case' x1_0 =>
          refine RE_eff rfl rfl rfl eff_buildSlice0 ?_; rintro _ _ ⟨b30, rfl, rfl⟩; refine ⟨_, (by first | ((repeat first | exact fun _ s => s | apply en_keep | apply en_drop | apply en_app) <;> fail) | ((repeat first | exact en_refl | (apply en_blk; focus ((repeat' first | exact Pick.here | apply Pick.skip | apply Pick.app); done); focus rfl) | (apply en_own; focus ((repeat' first | exact Pick.here | apply Pick.skip | apply Pick.app); done); focus rfl) | (apply en_pick; focus ((repeat' first | exact Pick.here | apply Pick.skip | apply Pick.app); done)) | apply en_drop | apply en_app) <;> fail)), fun _ s => s, ?_⟩
          refine RS_br ?x2_0 ?x2_1
          case' x2_1 =>
            refine RE_eff rfl rfl rfl (eff_buildSlice1 (by rfl) rfl rfl) ?_; rintro _ _ ⟨b39, rfl, rfl⟩; refine ⟨_, (by first | ((repeat first | exact fun _ s => s | apply en_keep | apply en_drop | apply en_app) <;> fail) | ((repeat first | exact en_refl | (apply en_blk; focus ((repeat' first | exact Pick.here | apply Pick.skip | apply Pick.app); done); focus rfl) | (apply en_own; focus ((repeat' first | exact Pick.here | apply Pick.skip | apply Pick.app); done); focus rfl) | (apply en_pick; focus ((repeat' first | exact Pick.here | apply Pick.skip | apply Pick.app); done)) | apply en_drop | apply en_app) <;> fail)), fun _ s => s, ?_⟩
            refine RS_e (RE_eff rfl rfl rfl (eff_append rfl rfl (by repeat' first | exact Pick.here | apply Pick.skip) ((by repeat' first | assumption | apply Rc.skip)) ((flat_one _)) (by rfl) (by decide) (by first | omega | (simp; done) | (simp; omega)) (by first | omega | (simp; done) | (simp; omega))) ?_); rintro _ _ ⟨A34, c34, rfl, hc34, hm34, hn34, rfl⟩; refine ⟨_, (by first | ((repeat first | exact fun _ s => s | apply en_keep | apply en_drop | apply en_app) <;> fail) | ((repeat first | exact en_refl | (apply en_blk; focus ((repeat' first | exact Pick.here | apply Pick.skip | apply Pick.app); done); focus rfl) | (apply en_own; focus ((repeat' first | exact Pick.here | apply Pick.skip | apply Pick.app); done); focus rfl) | (apply en_pick; focus ((repeat' first | exact Pick.here | apply Pick.skip | apply Pick.app); done)) | apply en_drop | apply en_app) <;> fail)), fun _ s => s, ?_⟩
            refine RS_e (RE_eff rfl rfl rfl (eff_append rfl rfl (by repeat' first | exact Pick.here | apply Pick.skip) (by repeat' first | exact Rc.blk rfl | assumption | apply Rc.skip) (one_all rfl) (by rfl) (by decide) (by first | omega | (simp; done) | (simp; omega)) (by first | omega | (simp; done) | (simp; omega))) ?_); rintro _ _ ⟨A40, c40, rfl, hc40, hm40, hn40, rfl⟩; refine ⟨_, (by first | ((repeat first | exact fun _ s => s | apply en_keep | apply en_drop | apply en_app) <;> fail) | ((repeat first | exact en_refl | (apply en_blk; focus ((repeat' first | exact Pick.here | apply Pick.skip | apply Pick.app); done); focus rfl) | (apply en_own; focus ((repeat' first | exact Pick.here | apply Pick.skip | apply Pick.app); done); focus rfl) | (apply en_pick; focus ((repeat' first | exact Pick.here | apply Pick.skip | apply Pick.app); done)) | apply en_drop | apply en_app) <;> fail)), fun _ s => s, ?_⟩
            refine RS_e (RE_eff rfl rfl rfl (eff_append rfl rfl (by repeat' first | exact Pick.here | apply Pick.skip) ((by repeat' first | assumption | apply Rc.skip)) ((flat_one _)) (by rfl) (by decide) (by first | omega | (simp; done) | (simp; omega)) (by first | omega | (simp; done) | (simp; omega))) ?_); rintro _ _ ⟨A44, c44, rfl, hc44, hm44, hn44, rfl⟩; refine ⟨_, (by first | ((repeat first | exact fun _ s => s | apply en_keep | apply en_drop | apply en_app) <;> fail) | ((repeat first | exact en_refl | (apply en_blk; focus ((repeat' first | exact Pick.here | apply Pick.skip | apply Pick.app); done); focus rfl) | (apply en_own; focus ((repeat' first | exact Pick.here | apply Pick.skip | apply Pick.app); done); focus rfl) | (apply en_pick; focus ((repeat' first | exact Pick.here | apply Pick.skip | apply Pick.app); done)) | apply en_drop | apply en_app) <;> fail)), fun _ s => s, ?_⟩
            refine RS_m retB_noPanic rfl rfl rfl rfl (ev_assign rfl) ?_
            refine RS_nil ?_
          case' x2_0 =>
            refine RE_eff rfl rfl rfl (eff_append rfl rfl (by repeat' first | exact Pick.here | apply Pick.skip) ((by repeat' first | assumption | apply Rc.skip)) ((flat_one _)) (by rfl) (by decide) (by first | omega | (simp; done) | (simp; omega)) (by first | omega | (simp; done) | (simp; omega))) ?_; rintro _ _ ⟨A34, c34, rfl, hc34, hm34, hn34, rfl⟩; refine ⟨_, (by first | ((repeat first | exact fun _ s => s | apply en_keep | apply en_drop | apply en_app) <;> fail) | ((repeat first | exact en_refl | (apply en_blk; focus ((repeat' first | exact Pick.here | apply Pick.skip | apply Pick.app); done); focus rfl) | (apply en_own; focus ((repeat' first | exact Pick.here | apply Pick.skip | apply Pick.app); done); focus rfl) | (apply en_pick; focus ((repeat' first | exact Pick.here | apply Pick.skip | apply Pick.app); done)) | apply en_drop | apply en_app) <;> fail)), fun _ s => s, ?_⟩
            refine RS_e (RE_eff rfl rfl rfl (eff_buildSlice1 (by rfl) rfl rfl) ?_); rintro _ _ ⟨b39, rfl, rfl⟩; refine ⟨_, (by first | ((repeat first | exact fun _ s => s | apply en_keep | apply en_drop | apply en_app) <;> fail) | ((repeat first | exact en_refl | (apply en_blk; focus ((repeat' first | exact Pick.here | apply Pick.skip | apply Pick.app); done); focus rfl) | (apply en_own; focus ((repeat' first | exact Pick.here | apply Pick.skip | apply Pick.app); done); focus rfl) | (apply en_pick; focus ((repeat' first | exact Pick.here | apply Pick.skip | apply Pick.app); done)) | apply en_drop | apply en_app) <;> fail)), fun _ s => s, ?_⟩
            refine RS_e (RE_eff rfl rfl rfl (eff_append rfl rfl (by repeat' first | exact Pick.here | apply Pick.skip) (by repeat' first | exact Rc.blk rfl | assumption | apply Rc.skip) (one_all rfl) (by rfl) (by decide) (by first | omega | (simp; done) | (simp; omega)) (by first | omega | (simp; done) | (simp; omega))) ?_); rintro _ _ ⟨A40, c40, rfl, hc40, hm40, hn40, rfl⟩; refine ⟨_, (by first | ((repeat first | exact fun _ s => s | apply en_keep | apply en_drop | apply en_app) <;> fail) | ((repeat first | exact en_refl | (apply en_blk; focus ((repeat' first | exact Pick.here | apply Pick.skip | apply Pick.app); done); focus rfl) | (apply en_own; focus ((repeat' first | exact Pick.here | apply Pick.skip | apply Pick.app); done); focus rfl) | (apply en_pick; focus ((repeat' first | exact Pick.here | apply Pick.skip | apply Pick.app); done)) | apply en_drop | apply en_app) <;> fail)), fun _ s => s, ?_⟩
            refine RS_e (RE_eff rfl rfl rfl (eff_append rfl rfl (by repeat' first | exact Pick.here | apply Pick.skip) ((by repeat' first | assumption | apply Rc.skip)) ((flat_one _)) (by rfl) (by decide) (by first | omega | (simp; done) | (simp; omega)) (by first | omega | (simp; done) | (simp; omega))) ?_); rintro _ _ ⟨A44, c44, rfl, hc44, hm44, hn44, rfl⟩; refine ⟨_, (by first | ((repeat first | exact fun _ s => s | apply en_keep | apply en_drop | apply en_app) <;> fail) | ((repeat first | exact en_refl | (apply en_blk; focus ((repeat' first | exact Pick.here | apply Pick.skip | apply Pick.app); done); focus rfl) | (apply en_own; focus ((repeat' first | exact Pick.here | apply Pick.skip | apply Pick.app); done); focus rfl) | (apply en_pick; focus ((repeat' first | exact Pick.here | apply Pick.skip | apply Pick.app); done)) | apply en_drop | apply en_app) <;> fail)), fun _ s => s, ?_⟩
            refine RS_m retB_noPanic rfl rfl rfl rfl (ev_assign rfl) ?_
            refine RS_nil ?_
        all_goals
          obtain ⟨b9, rfl⟩ := hn44 (by omega)
          rw [nn]
          rw [nn] at hc44
          (repeat first | refine G_seq ?_ | refine G_skip ?_ | refine G_endblk ?_ | refine G_block ?_ | refine G_exit rfl ?_)
          refine G_region ?_
          refine GO_q rfl rfl (ev_move rfl) ?_
          (first | refine GO_q rfl rfl (ev_addN (q := 1) rfl rfl (by first | omega | (simp; done) | (simp; omega))) ?_ | refine GO_q rfl rfl (ev_add rfl rfl (by first | omega | (simp; done) | (simp; omega))) ?_)
          refine GO_q rfl rfl (ev_assign rfl) ?_
          refine GO_nil ?_
          (repeat first | refine G_seq ?_ | refine G_skip ?_ | refine G_endblk ?_ | refine G_block ?_ | refine G_exit rfl ?_)
          refine G_round (i + 1, b9, c44, ins x out) ⟨by simp only; omega, by simp only; rw [hs, ← f2], n2, hc44, hm44⟩ (by simp only; omega) ⟨rfl, rfl, rfl, trivial⟩ ?_
          refine en_own .here ?_ (by (repeat first | exact fun _ s => s | apply en_keep | apply en_drop | apply en_app) <;> fail)
          rw [hin, flat_append, flat_append]
          rfl
    · have e : k = w := by omega
      subst e
      have hd9 : ¬ (k < out.length) := hko
      (repeat first | refine G_seq ?_ | refine G_skip ?_ | refine G_endblk ?_ | refine G_block ?_ | refine G_exit rfl ?_)
      refine G_draw (.q 0 (.q 1 (.q 2 (.q 3 (.q 4 (.q 5 (.q 6 (.q 7 (.q 8 (.q 9 (.q 10 (.q 11 (.q 12 (.q 13 (.q 14 .nil))))))))))))))) (by kernel_rfl) (by kernel_rfl) ?_
      refine RS_m retB_noPanic rfl rfl rfl rfl (ev_move rfl) ?_
      refine RS_m retB_noPanic rfl rfl rfl rfl (ev_move rfl) ?_
      refine RS_q retB_noPanic rfl rfl rfl rfl (ev_len rfl) ?_
      (first | refine RS_m retB_noPanic rfl rfl rfl rfl (ev_lssN rfl rfl) ?_ | refine RS_m retB_noPanic rfl rfl rfl rfl (ev_lss rfl rfl) ?_)
      refine RS_m retB_noPanic rfl rfl rfl rfl (ev_move rfl) ?_
      refine RS_q_no retB_noPanic rfl rfl rfl ⟨_, rfl, (decide_eq_false hd9)⟩ rfl ?_
      refine RS_q_no retB_noPanic rfl rfl rfl ⟨_, rfl, (decide_eq_false hd9)⟩ rfl ?_
      refine RS_q_no retB_noPanic rfl rfl rfl ⟨_, rfl, (decide_eq_false hd9)⟩ rfl ?_
      refine RS_q_no retB_noPanic rfl rfl rfl ⟨_, rfl, (decide_eq_false hd9)⟩ rfl ?_
      refine RS_q_no retB_noPanic rfl rfl rfl ⟨_, rfl, (decide_eq_false hd9)⟩ rfl ?_
      refine RS_q_no retB_noPanic rfl rfl rfl ⟨_, rfl, (decide_eq_false hd9)⟩ rfl ?_
      refine RS_q_no retB_noPanic rfl rfl rfl ⟨_, rfl, (decide_eq_false hd9)⟩ rfl ?_
      refine RS_q_no retB_noPanic rfl rfl rfl ⟨_, rfl, (decide_eq_false hd9)⟩ rfl ?_
      refine RS_q_no retB_noPanic rfl rfl rfl ⟨_, rfl, (decide_eq_false hd9)⟩ rfl ?_
      refine RS_m retB_noPanic rfl rfl rfl rfl (ev_pick_f rfl (decide_eq_false hd9) rfl) ?_
      refine RS_nil ?_
      (repeat first | refine G_seq ?_ | refine G_skip ?_ | refine G_endblk ?_ | refine G_block ?_ | refine G_exit rfl ?_)
      refine G_cond_f rfl rfl ?_
      have m1 : Rc (own 3 1 (some ⟨b, 0, none⟩) out.length d (flat out) :: F :: L) 1 (some ⟨b, 0, none⟩) k (flat (out.take k)) := hout.take hwl
      have m2 : Rc (own 3 1 (some ⟨b, 0, none⟩) out.length d (flat out) :: F :: L) 1 (some ⟨b, (if d = k then 0 else 0 + k * 1), none⟩) (out.length - k) (flat (out.drop k)) := hout.drop hwl f4
      have y6 : Ld (own 3 1 (some ⟨b, 0, none⟩) out.length d (flat out) :: F :: L) ⟨lb, lo + i * 1, none⟩ (.int .i64 x) := y2.skip.skip
      have nn : 0 + k + 1 + (out.length - k) = (ins x out).length := by rw [ins_length]; omega
      have n2 : (ins x out).length = i + 1 := by rw [ins_length]; omega
      (repeat first | refine G_seq ?_ | refine G_skip ?_ | refine G_endblk ?_ | refine G_block ?_ | refine G_exit rfl ?_)
      refine G_draw (.q 1 (.q 2 (.q 3 (.q 5 (.q 6 (.q 7 (.q 8 (.q 11 (.q 12 (.q 13 (.br 0 (.br 4 (.e 9 (.e 10 (.e 14 (.q 15 .nil)))) 9 (.e 4 (.e 10 (.e 14 (.q 15 .nil))))) 9 (.e 0 (.e 4 (.e 10 (.e 14 (.q 15 .nil)))))))))))))))) (by kernel_rfl) (by kernel_rfl) ?_
      refine RS_m retB_noPanic rfl rfl rfl rfl (ev_move rfl) ?_
      refine RS_m retB_noPanic rfl rfl rfl rfl (ev_move rfl) ?_
      refine RS_q retB_noPanic rfl rfl rfl rfl (ev_sliceH rfl rfl (by first | omega | (simp; done) | (simp; omega))) ?_
      refine RS_m retB_noPanic rfl rfl rfl rfl (ev_move rfl) ?_
      refine RS_m retB_noPanic rfl rfl rfl rfl (ev_move rfl) ?_
      (first | refine RS_m retB_noPanic rfl rfl rfl rfl (ev_indexAddrN rfl rfl (by first | omega | (simp; done) | (simp; omega))) ?_ | refine RS_m retB_noPanic rfl rfl rfl rfl (ev_indexAddr rfl rfl (by first | omega | (simp; done) | (simp; omega)) (by first | omega | (simp; done) | (simp; omega))) ?_)
      refine RS_q retB_noPanic rfl rfl rfl rfl (ev_load rfl (by repeat' first | exact Ld.blk rfl | assumption | apply Ld.skip | apply Ld.app)) ?_
      refine RS_m retB_noPanic rfl rfl rfl rfl (ev_move rfl) ?_
      refine RS_m retB_noPanic rfl rfl rfl rfl (ev_move rfl) ?_
      refine RS_q retB_noPanic rfl rfl rfl rfl (ev_sliceL rfl rfl (by first | omega | (simp; done) | (simp; omega)) (by first | omega | (simp; done) | (simp; omega))) ?_
      refine RS_br ?x3_0 ?x3_1
      case' x3_1 =>
        refine RE_eff rfl rfl rfl (eff_buildSlice1 (by rfl) rfl rfl) ?_; rintro _ _ ⟨b39, rfl, rfl⟩; refine ⟨_, (by first | ((repeat first | exact fun _ s => s | apply en_keep | apply en_drop | apply en_app) <;> fail) | ((repeat first | exact en_refl | (apply en_blk; focus ((repeat' first | exact Pick.here | apply Pick.skip | apply Pick.app); done); focus rfl) | (apply en_own; focus ((repeat' first | exact Pick.here | apply Pick.skip | apply Pick.app); done); focus rfl) | (apply en_pick; focus ((repeat' first | exact Pick.here | apply Pick.skip | apply Pick.app); done)) | apply en_drop | apply en_app) <;> fail)), fun _ s => s, ?_⟩
        refine RS_e (RE_eff rfl rfl rfl eff_buildSlice0 ?_); rintro _ _ ⟨b30, rfl, rfl⟩; refine ⟨_, (by first | ((repeat first | exact fun _ s => s | apply en_keep | apply en_drop | apply en_app) <;> fail) | ((repeat first | exact en_refl | (apply en_blk; focus ((repeat' first | exact Pick.here | apply Pick.skip | apply Pick.app); done); focus rfl) | (apply en_own; focus ((repeat' first | exact Pick.here | apply Pick.skip | apply Pick.app); done); focus rfl) | (apply en_pick; focus ((repeat' first | exact Pick.here | apply Pick.skip | apply Pick.app); done)) | apply en_drop | apply en_app) <;> fail)), fun _ s => s, ?_⟩
        refine RS_e (RE_eff rfl rfl rfl (eff_append rfl rfl (by repeat' first | exact Pick.here | apply Pick.skip) ((by repeat' first | assumption | apply Rc.skip)) ((flat_one _)) (by rfl) (by decide) (by first | omega | (simp; done) | (simp; omega)) (by first | omega | (simp; done) | (simp; omega))) ?_); rintro _ _ ⟨A34, c34, rfl, hc34, hm34, hn34, rfl⟩; refine ⟨_, (by first | ((repeat first | exact fun _ s => s | apply en_keep | apply en_drop | apply en_app) <;> fail) | ((repeat first | exact en_refl | (apply en_blk; focus ((repeat' first | exact Pick.here | apply Pick.skip | apply Pick.app); done); focus rfl) | (apply en_own; focus ((repeat' first | exact Pick.here | apply Pick.skip | apply Pick.app); done); focus rfl) | (apply en_pick; focus ((repeat' first | exact Pick.here | apply Pick.skip | apply Pick.app); done)) | apply en_drop | apply en_app) <;> fail)), fun _ s => s, ?_⟩
        refine RS_e (RE_eff rfl rfl rfl (eff_append rfl rfl (by repeat' first | exact Pick.here | apply Pick.skip) (by repeat' first | exact Rc.blk rfl | assumption | apply Rc.skip) (one_all rfl) (by rfl) (by decide) (by first | omega | (simp; done) | (simp; omega)) (by first | omega | (simp; done) | (simp; omega))) ?_); rintro _ _ ⟨A40, c40, rfl, hc40, hm40, hn40, rfl⟩; refine ⟨_, (by first | ((repeat first | exact fun _ s => s | apply en_keep | apply en_drop | apply en_app) <;> fail) | ((repeat first | exact en_refl | (apply en_blk; focus ((repeat' first | exact Pick.here | apply Pick.skip | apply Pick.app); done); focus rfl) | (apply en_own; focus ((repeat' first | exact Pick.here | apply Pick.skip | apply Pick.app); done); focus rfl) | (apply en_pick; focus ((repeat' first | exact Pick.here | apply Pick.skip | apply Pick.app); done)) | apply en_drop | apply en_app) <;> fail)), fun _ s => s, ?_⟩
        refine RS_e (RE_eff rfl rfl rfl (eff_append rfl rfl (by repeat' first | exact Pick.here | apply Pick.skip) ((by repeat' first | assumption | apply Rc.skip)) ((flat_one _)) (by rfl) (by decide) (by first | omega | (simp; done) | (simp; omega)) (by first | omega | (simp; done) | (simp; omega))) ?_); rintro _ _ ⟨A44, c44, rfl, hc44, hm44, hn44, rfl⟩; refine ⟨_, (by first | ((repeat first | exact fun _ s => s | apply en_keep | apply en_drop | apply en_app) <;> fail) | ((repeat first | exact en_refl | (apply en_blk; focus ((repeat' first | exact Pick.here | apply Pick.skip | apply Pick.app); done); focus rfl) | (apply en_own; focus ((repeat' first | exact Pick.here | apply Pick.skip | apply Pick.app); done); focus rfl) | (apply en_pick; focus ((repeat' first | exact Pick.here | apply Pick.skip | apply Pick.app); done)) | apply en_drop | apply en_app) <;> fail)), fun _ s => s, ?_⟩
        refine RS_m retB_noPanic rfl rfl rfl rfl (ev_assign rfl) ?_
        refine RS_nil ?_
      case' x3_0 =>
        refine RE_eff rfl rfl rfl eff_buildSlice0 ?_; rintro _ _ ⟨b30, rfl, rfl⟩; refine ⟨_, (by first | ((repeat first | exact fun _ s => s | apply en_keep | apply en_drop | apply en_app) <;> fail) | ((repeat first | exact en_refl | (apply en_blk; focus ((repeat' first | exact Pick.here | apply Pick.skip | apply Pick.app); done); focus rfl) | (apply en_own; focus ((repeat' first | exact Pick.here | apply Pick.skip | apply Pick.app); done); focus rfl) | (apply en_pick; focus ((repeat' first | exact Pick.here | apply Pick.skip | apply Pick.app); done)) | apply en_drop | apply en_app) <;> fail)), fun _ s => s, ?_⟩
        refine RS_br ?x4_0 ?x4_1
        case' x4_1 =>
          refine RE_eff rfl rfl rfl (eff_buildSlice1 (by rfl) rfl rfl) ?_; rintro _ _ ⟨b39, rfl, rfl⟩; refine ⟨_, (by first | ((repeat first | exact fun _ s => s | apply en_keep | apply en_drop | apply en_app) <;> fail) | ((repeat first | exact en_refl | (apply en_blk; focus ((repeat' first | exact Pick.here | apply Pick.skip | apply Pick.app); done); focus rfl) | (apply en_own; focus ((repeat' first | exact Pick.here | apply Pick.skip | apply Pick.app); done); focus rfl) | (apply en_pick; focus ((repeat' first | exact Pick.here | apply Pick.skip | apply Pick.app); done)) | apply en_drop | apply en_app) <;> fail)), fun _ s => s, ?_⟩
          refine RS_e (RE_eff rfl rfl rfl (eff_append rfl rfl (by repeat' first | exact Pick.here | apply Pick.skip) ((by repeat' first | assumption | apply Rc.skip)) ((flat_one _)) (by rfl) (by decide) (by first | omega | (simp; done) | (simp; omega)) (by first | omega | (simp; done) | (simp; omega))) ?_); rintro _ _ ⟨A34, c34, rfl, hc34, hm34, hn34, rfl⟩; refine ⟨_, (by first | ((repeat first | exact fun _ s => s | apply en_keep | apply en_drop | apply en_app) <;> fail) | ((repeat first | exact en_refl | (apply en_blk; focus ((repeat' first | exact Pick.here | apply Pick.skip | apply Pick.app); done); focus rfl) | (apply en_own; focus ((repeat' first | exact Pick.here | apply Pick.skip | apply Pick.app); done); focus rfl) | (apply en_pick; focus ((repeat' first | exact Pick.here | apply Pick.skip | apply Pick.app); done)) | apply en_drop | apply en_app) <;> fail)), fun _ s => s, ?_⟩
          refine RS_e (RE_eff rfl rfl rfl (eff_append rfl rfl (by repeat' first | exact Pick.here | apply Pick.skip) (by repeat' first | exact Rc.blk rfl | assumption | apply Rc.skip) (one_all rfl) (by rfl) (by decide) (by first | omega | (simp; done) | (simp; omega)) (by first | omega | (simp; done) | (simp; omega))) ?_); rintro _ _ ⟨A40, c40, rfl, hc40, hm40, hn40, rfl⟩; refine ⟨_, (by first | ((repeat first | exact fun _ s => s | apply en_keep | apply en_drop | apply en_app) <;> fail) | ((repeat first | exact en_refl | (apply en_blk; focus ((repeat' first | exact Pick.here | apply Pick.skip | apply Pick.app); done); focus rfl) | (apply en_own; focus ((repeat' first | exact Pick.here | apply Pick.skip | apply Pick.app); done); focus rfl) | (apply en_pick; focus ((repeat' first | exact Pick.here | apply Pick.skip | apply Pick.app); done)) | apply en_drop | apply en_app) <;> fail)), fun _ s => s, ?_⟩
          refine RS_e (RE_eff rfl rfl rfl (eff_append rfl rfl (by repeat' first | exact Pick.here | apply Pick.skip) ((by repeat' first | assumption | apply Rc.skip)) ((flat_one _)) (by rfl) (by decide) (by first | omega | (simp; done) | (simp; omega)) (by first | omega | (simp; done) | (simp; omega))) ?_); rintro _ _ ⟨A44, c44, rfl, hc44, hm44, hn44, rfl⟩; refine ⟨_, (by first | ((repeat first | exact fun _ s => s | apply en_keep | apply en_drop | apply en_app) <;> fail) | ((repeat first | exact en_refl | (apply en_blk; focus ((repeat' first | exact Pick.here | apply Pick.skip | apply Pick.app); done); focus rfl) | (apply en_own; focus ((repeat' first | exact Pick.here | apply Pick.skip | apply Pick.app); done); focus rfl) | (apply en_pick; focus ((repeat' first | exact Pick.here | apply Pick.skip | apply Pick.app); done)) | apply en_drop | apply en_app) <;> fail)), fun _ s => s, ?_⟩
          refine RS_m retB_noPanic rfl rfl rfl rfl (ev_assign rfl) ?_
          refine RS_nil ?_
        case' x4_0 =>
          refine RE_eff rfl rfl rfl (eff_append rfl rfl (by repeat' first | exact Pick.here | apply Pick.skip) ((by repeat' first | assumption | apply Rc.skip)) ((flat_one _)) (by rfl) (by decide) (by first | omega | (simp; done) | (simp; omega)) (by first | omega | (simp; done) | (simp; omega))) ?_; rintro _ _ ⟨A34, c34, rfl, hc34, hm34, hn34, rfl⟩; refine ⟨_, (by first | ((repeat first | exact fun _ s => s | apply en_keep | apply en_drop | apply en_app) <;> fail) | ((repeat first | exact en_refl | (apply en_blk; focus ((repeat' first | exact Pick.here | apply Pick.skip | apply Pick.app); done); focus rfl) | (apply en_own; focus ((repeat' first | exact Pick.here | apply Pick.skip | apply Pick.app); done); focus rfl) | (apply en_pick; focus ((repeat' first | exact Pick.here | apply Pick.skip | apply Pick.app); done)) | apply en_drop | apply en_app) <;> fail)), fun _ s => s, ?_⟩
          refine RS_e (RE_eff rfl rfl rfl (eff_buildSlice1 (by rfl) rfl rfl) ?_); rintro _ _ ⟨b39, rfl, rfl⟩; refine ⟨_, (by first | ((repeat first | exact fun _ s => s | apply en_keep | apply en_drop | apply en_app) <;> fail) | ((repeat first | exact en_refl | (apply en_blk; focus ((repeat' first | exact Pick.here | apply Pick.skip | apply Pick.app); done); focus rfl) | (apply en_own; focus ((repeat' first | exact Pick.here | apply Pick.skip | apply Pick.app); done); focus rfl) | (apply en_pick; focus ((repeat' first | exact Pick.here | apply Pick.skip | apply Pick.app); done)) | apply en_drop | apply en_app) <;> fail)), fun _ s => s, ?_⟩
          refine RS_e (RE_eff rfl rfl rfl (eff_append rfl rfl (by repeat' first | exact Pick.here | apply Pick.skip) (by repeat' first | exact Rc.blk rfl | assumption | apply Rc.skip) (one_all rfl) (by rfl) (by decide) (by first | omega | (simp; done) | (simp; omega)) (by first | omega | (simp; done) | (simp; omega))) ?_); rintro _ _ ⟨A40, c40, rfl, hc40, hm40, hn40, rfl⟩; refine ⟨_, (by first | ((repeat first | exact fun _ s => s | apply en_keep | apply en_drop | apply en_app) <;> fail) | ((repeat first | exact en_refl | (apply en_blk; focus ((repeat' first | exact Pick.here | apply Pick.skip | apply Pick.app); done); focus rfl) | (apply en_own; focus ((repeat' first | exact Pick.here | apply Pick.skip | apply Pick.app); done); focus rfl) | (apply en_pick; focus ((repeat' first | exact Pick.here | apply Pick.skip | apply Pick.app); done)) | apply en_drop | apply en_app) <;> fail)), fun _ s => s, ?_⟩
          refine RS_e (RE_eff rfl rfl rfl (eff_append rfl rfl (by repeat' first | exact Pick.here | apply Pick.skip) ((by repeat' first | assumption | apply Rc.skip)) ((flat_one _)) (by rfl) (by decide) (by first | omega | (simp; done) | (simp; omega)) (by first | omega | (simp; done) | (simp; omega))) ?_); rintro _ _ ⟨A44, c44, rfl, hc44, hm44, hn44, rfl⟩; refine ⟨_, (by first | ((repeat first | exact fun _ s => s | apply en_keep | apply en_drop | apply en_app) <;> fail) | ((repeat first | exact en_refl | (apply en_blk; focus ((repeat' first | exact Pick.here | apply Pick.skip | apply Pick.app); done); focus rfl) | (apply en_own; focus ((repeat' first | exact Pick.here | apply Pick.skip | apply Pick.app); done); focus rfl) | (apply en_pick; focus ((repeat' first | exact Pick.here | apply Pick.skip | apply Pick.app); done)) | apply en_drop | apply en_app) <;> fail)), fun _ s => s, ?_⟩
          refine RS_m retB_noPanic rfl rfl rfl rfl (ev_assign rfl) ?_
          refine RS_nil ?_
      all_goals
        obtain ⟨b9, rfl⟩ := hn44 (by omega)
        rw [nn]
        rw [nn] at hc44
        (repeat first | refine G_seq ?_ | refine G_skip ?_ | refine G_endblk ?_ | refine G_block ?_ | refine G_exit rfl ?_)
        refine G_region ?_
        refine GO_q rfl rfl (ev_move rfl) ?_
        (first | refine GO_q rfl rfl (ev_addN (q := 1) rfl rfl (by first | omega | (simp; done) | (simp; omega))) ?_ | refine GO_q rfl rfl (ev_add rfl rfl (by first | omega | (simp; done) | (simp; omega))) ?_)
        refine GO_q rfl rfl (ev_assign rfl) ?_
        refine GO_nil ?_
        (repeat first | refine G_seq ?_ | refine G_skip ?_ | refine G_endblk ?_ | refine G_block ?_ | refine G_exit rfl ?_)
        refine G_round (i + 1, b9, c44, ins x out) ⟨by simp only; omega, by simp only; rw [hs, ← f2], n2, hc44, hm44⟩ (by simp only; omega) ⟨rfl, rfl, rfl, trivial⟩ ?_
        refine en_own .here ?_ (by (repeat first | exact fun _ s => s | apply en_keep | apply en_drop | apply en_app) <;> fail)
        rw [hin, flat_append, flat_append]
        rfl
  · have e : i = n := by omega
    subst e
    have e2 : out = rising l := by rw [f2, List.take_of_length_le (by omega)]
    subst e2
    (repeat first | refine G_seq ?_ | refine G_skip ?_ | refine G_endblk ?_ | refine G_block ?_ | refine G_exit rfl ?_)
    refine G_region ?_
    refine GO_q rfl rfl (ev_move rfl) ?_
    refine GO_q rfl rfl (ev_assign rfl) ?_
    refine GO_nil ?_
    (repeat first | refine G_seq ?_ | refine G_skip ?_ | refine G_endblk ?_ | refine G_block ?_ | refine G_exit rfl ?_)
    exact G_ret (L' := [own 3 1 (some ⟨b, 0, none⟩) (rising l).length d (flat (rising l))] ++ L) rfl (.tmp rfl .nil) (fun _ s => s.swap) ⟨some ⟨b, 0, none⟩, d, [own 3 1 (some ⟨b, 0, none⟩) (rising l).length d (flat (rising l))], rfl, f4, f5, rfl, Rc.own (flat_length _) (fun _ => ⟨b, rfl⟩)⟩
end Go.Proofs.Ytalcanejhniepaa
/- slices.Sort of numbers, as a contract over parts of the heap. -/
namespace Go.Proofs.Ytalcanejhniepaa
open Go.RowKit Go.Sort
set_option linter.unusedVariables false
set_option linter.unusedSimpArgs false

def srt (l : List Int) : List Int := l.mergeSort fun x y => decide (x ≤ y)
/-- The shelf's contract of slices.Sort gives one over parts of the heap. -/
theorem sort_of_shelf {P : Program} {f : FuncId} {e : TypeId} (b n c : Nat) (zs : List Int) (L : List HP) (hn : zs.length = n) (h0 : 0 < n)
    (h : ∀ w, Holds (Value.int .i64) w b 0 zs.toArray → b < w.heap.size → Calls P f #[.slice (some ⟨b, 0, none⟩) zs.length c] w fun en w' =>
      en = .returned (.tuple #[]) ∧ ∃ k os, w' = grow (putRow (Value.int .i64) (Sort.ahead w k) b 0 (zs.mergeSort fun x y => decide (x ≤ y)).toArray) os) :
    Ctr P f #[.slice (some ⟨b, 0, none⟩) n c] (own e 1 (some ⟨b, 0, none⟩) n c (flat zs) :: L) fun v L' => v = .tuple #[] ∧ L' = own e 1 (some ⟨b, 0, none⟩) n c (flat (srt zs)) :: L := by
  intro g F w hw
  have hfl : ∀ l : List Int, flat l = l.map (Value.int .i64) := fun l => by induction l with
    | nil => rfl
    | cons a l ih => rw [flat_cons, ih]; rfl
  have hw2 : Hp g (own e 1 (some ⟨b, 0, none⟩) n c (flat zs) :: F :: L) w := hw.mono fun _ s => s.swap
  obtain ⟨k1, k2, dj, s1, s2, ⟨o1, o2, o3, o4⟩, l⟩ := hw2.s
  rcases o4 with ⟨e1, _⟩ | ⟨b', cur, e1, e2, e3, e4⟩
  · cases e1
  simp only [Option.some.injEq, Addr.mk.injEq, and_true] at e1
  subst e1
  have hb : w.heap[b]? = some (.cells cur e (0, 0)) := s1 _ _ e2
  have hlt : b < w.heap.size := (Array.getElem?_eq_some_iff.1 hb).1
  rw [Nat.mul_one] at e3 e4
  have hcur : ∀ j, j < n → cur[j]? = some (.int .i64 (zs.getD j 0)) := fun j hj => by
    have : (flat zs)[j]? = some (.int .i64 (zs.getD j 0)) := by rw [hfl]; simp [show j < zs.length by omega]
    rw [← e4, List.getElem?_take_of_lt hj] at this
    simpa using this
  have hH : Holds (Value.int .i64) w b 0 zs.toArray := fun j hj => by
    have hj' : j < n := by simpa [hn] using hj
    refine ⟨?_, by simp [World.frozen?, hb]⟩
    rw [Nat.zero_add]
    simp only [World.cell?, hb]
    rw [if_neg (by simp), hcur j hj']
    simp [show j < zs.length by omega]
  rw [← hn]
  refine (h w hH hlt).mono fun en w' ⟨q1, k, os, q2⟩ => ⟨_, _, q1, ⟨rfl, rfl⟩, ?_⟩
  refine Hp.mono (L := own e 1 (some ⟨b, 0, none⟩) zs.length c (flat (srt zs)) :: F :: L) (fun _ s => s.swap) ?_
  rw [hn]
  have hsl : (srt zs).length = n := by rw [srt, List.length_mergeSort, hn]
  have hheap : w'.heap = w.heap.modify b (onCells (putCells (Value.int .i64) 0 (srt zs).toArray)) ++ os := by rw [q2]; rfl
  have hne : ∀ j, j < w.heap.size → j ≠ b → w'.heap[j]? = w.heap[j]? := fun j hj hjb => by
    rw [hheap, Array.getElem?_append_left (by simpa using hj), Array.getElem?_modify, if_neg (Ne.symm hjb)]
  have hbb : w'.heap[b]? = some (.cells (putCells (Value.int .i64) 0 (srt zs).toArray cur) e (0, 0)) := by
    rw [hheap, Array.getElem?_append_left (by simpa using hlt), Array.getElem?_modify, if_pos rfl, hb]; rfl
  refine ⟨by rw [← hw.g, q2]; rfl, fun j => if j = b then some (.cells (putCells (Value.int .i64) 0 (srt zs).toArray cur) e (0, 0)) else none, k2, fun j => ?_, fun j o eo => ?_, fun j o eo => ?_, ⟨by rw [flat_length, hsl]; rfl, o2, o3, .inr ⟨b, putCells (Value.int .i64) 0 (srt zs).toArray cur, rfl, by simp, by simp [putCells, e3], ?_⟩⟩, l⟩
  · by_cases hj : j = b
    · right
      rcases dj j with h9 | h9
      · rw [hj, e2] at h9; cases h9
      · exact h9
    · left; simp [hj]
  · replace eo : (if j = b then some (Obj.cells (putCells (Value.int .i64) 0 (srt zs).toArray cur) e (0, 0)) else none) = some o := eo
    by_cases hj : j = b
    · subst hj; rw [if_pos rfl] at eo; rw [← eo]; exact hbb
    · rw [if_neg hj] at eo; cases eo
  · have hj : j ≠ b := fun hj => by
      rcases dj j with h9 | h9
      · rw [hj, e2] at h9; cases h9
      · rw [h9] at eo; cases eo
    have hlt2 : j < w.heap.size := by
      have := s2 _ _ eo
      rcases Nat.lt_or_ge j w.heap.size with h' | h'
      · exact h'
      · simp [World.hm, Array.getElem?_eq_none h'] at this
    show w'.heap[j]? = _
    rw [hne j hlt2 hj]; exact s2 _ _ eo
  · rw [hfl, Nat.mul_one]
    apply List.ext_getElem?
    intro j
    by_cases hj : j < n
    · rw [List.getElem?_take_of_lt hj]
      have hjc : j < cur.size := by omega
      simp [putCells, hjc, hj, hsl, show j < (srt zs).length by omega]
    · rw [List.getElem?_eq_none (by simp; omega), List.getElem?_eq_none (by simp; omega)]
end Go.Proofs.Ytalcanejhniepaa
/- Numbers in order. -/
namespace Go.Proofs.Ytalcanejhniepaa
theorem eq_of_sorted : ∀ (l m : List Int), l.Perm m → l.Pairwise (· ≤ ·) → m.Pairwise (· ≤ ·) → l = m
  | [], m, p, _, _ => by simpa using p.symm.eq_nil
  | a :: l, [], p, _, _ => by simpa using p.eq_nil
  | a :: l, b :: m, p, h1, h2 => by
    rw [List.pairwise_cons] at h1 h2
    have e : a = b := by
      have ha : a ∈ b :: m := p.subset (by simp)
      have hb : b ∈ a :: l := p.symm.subset (by simp)
      rcases List.mem_cons.1 ha with h | h
      · exact h
      · rcases List.mem_cons.1 hb with h' | h'
        · exact h'.symm
        · exact Int.le_antisymm (h1.1 _ h') (h2.1 _ h)
    subst e
    rw [eq_of_sorted l m p.cons_inv h1.2 h2.2]
theorem srt_perm (l : List Int) : (srt l).Perm l := List.mergeSort_perm l _
theorem srt_sorted (l : List Int) : (srt l).Pairwise (· ≤ ·) := by
  have := List.pairwise_mergeSort (le := fun x y : Int => decide (x ≤ y)) (fun a b c h1 h2 => by simp at *; omega) (fun a b => by simp; omega) l
  exact this.imp fun h => by simpa using h
theorem ins_perm (x : Int) (l : List Int) : (ins x l).Perm (x :: l) := by
  unfold ins
  refine List.perm_middle.trans ?_
  rw [List.takeWhile_append_dropWhile]
theorem ins_sorted (x : Int) (l : List Int) (h : l.Pairwise (· ≤ ·)) : (ins x l).Pairwise (· ≤ ·) := by
  induction l with
  | nil => simp [ins]
  | cons a l ih =>
    rw [List.pairwise_cons] at h
    by_cases ha : a ≤ x
    · have e : ins x (a :: l) = a :: ins x l := by simp [ins, ha]
      rw [e, List.pairwise_cons]
      refine ⟨fun b hb => ?_, ih h.2⟩
      rcases List.mem_cons.1 ((ins_perm x l).subset hb) with h' | h'
      · rw [h']; exact ha
      · exact h.1 _ h'
    · have e : ins x (a :: l) = x :: a :: l := by simp [ins, ha]
      rw [e, List.pairwise_cons]
      refine ⟨fun b hb => ?_, by rw [List.pairwise_cons]; exact h⟩
      rcases List.mem_cons.1 hb with h' | h'
      · rw [h']; omega
      · have := h.1 _ h'; omega
theorem rising_fold (l o : List Int) (ho : o.Pairwise (· ≤ ·)) : (l.foldl (fun o x => ins x o) o).Pairwise (· ≤ ·) ∧ (l.foldl (fun o x => ins x o) o).Perm (o ++ l) := by
  induction l generalizing o with
  | nil => exact ⟨ho, by simp⟩
  | cons a l ih =>
    obtain ⟨h1, h2⟩ := ih (ins a o) (ins_sorted a o ho)
    refine ⟨h1, h2.trans ?_⟩
    refine ((ins_perm a o).append_right l).trans ?_
    exact (List.perm_middle (l₁ := o) (l₂ := l) (a := a)).symm
theorem rising_perm (l : List Int) : (rising l).Perm l := by simpa [rising] using (rising_fold l [] .nil).2
theorem rising_srt (l m : List Int) (h : l.Perm m) : rising l = srt m :=
  eq_of_sorted _ _ ((rising_perm l).trans (h.trans (srt_perm m).symm)) (rising_fold l [] .nil).1 (srt_sorted m)
end Go.Proofs.Ytalcanejhniepaa
/-
  DERIVED: THE SHELF's CONTRACTS AT THIS DUMP, IN PLAIN WORDS (tools/lay-plain.mjs out of 'TryShelf.lean', which tools/lay-shelf.mjs wrote): THE SAME DECLARATIONS UNDER THE SAME NAMES: 'import', 'namespace', 'open', 'def', 'theorem' AND NOTHING ELSE: no command of the shelf's: FOR A HAND-IN. Each laying: the table of numbers ('.._ren') and one theorem, a field a fact of the dump's own or the kernel's comparison; each contract: ONE APPLICATION.
-/
namespace Go.Proofs
open Go.Shelf
def Try.lays189_ren : Go.Shelf.Ren := ⟨fun | 189 => 80 | 125 => 100 | 257 => 99 | 128 => 128 | 129 => 129 | 294 => 119 | 295 => 120 | 296 => 121 | 297 => 122 | 298 => 123 | 299 => 124 | 216 => 125 | 300 => 126 | 301 => 127 | 328 => 139 | 329 => 140 | 330 => 141 | 331 => 142 | 332 => 143 | 215 => 144 | 343 => 150 | n => n, fun | 28 => 24 | 3 => 3 | 46 => 136 | 0 => 0 | 51 => 154 | 53 => 156 | 4 => 4 | 183 => 148 | 182 => 147 | 131 => 88 | 5 => 5 | 9 => 9 | 218 => 164 | 222 => 168 | 228 => 171 | 229 => 172 | n => n, fun | n => n⟩
theorem Try.lays189 : Go.Proofs.Lays.n189 Try.prog Try.lays189_ren := {
  mixed := by kernel_rfl
  f125 := Try.func100.trans (congrArg some (by kernel_rfl))
  f128 := Try.func128.trans (congrArg some (by kernel_rfl))
  f129 := Try.func129.trans (congrArg some (by kernel_rfl))
  f189 := Try.func80.trans (congrArg some (by kernel_rfl))
  f215 := Try.func144.trans (congrArg some (by kernel_rfl))
  f216 := Try.func125.trans (congrArg some (by kernel_rfl))
  f257 := Try.func99.trans (congrArg some (by kernel_rfl))
  f294 := Try.func119.trans (congrArg some (by kernel_rfl))
  f295 := Try.func120.trans (congrArg some (by kernel_rfl))
  f296 := Try.func121.trans (congrArg some (by kernel_rfl))
  f297 := Try.func122.trans (congrArg some (by kernel_rfl))
  f298 := Try.func123.trans (congrArg some (by kernel_rfl))
  f299 := Try.func124.trans (congrArg some (by kernel_rfl))
  f300 := Try.func126.trans (congrArg some (by kernel_rfl))
  f301 := Try.func127.trans (congrArg some (by kernel_rfl))
  f328 := Try.func139.trans (congrArg some (by kernel_rfl))
  f329 := Try.func140.trans (congrArg some (by kernel_rfl))
  f330 := Try.func141.trans (congrArg some (by kernel_rfl))
  f331 := Try.func142.trans (congrArg some (by kernel_rfl))
  f332 := Try.func143.trans (congrArg some (by kernel_rfl))
  f343 := Try.func150.trans (congrArg some (by kernel_rfl))
  t0 := Try.underlying0
  a0 := Try.isAgg0
  z0 := Try.sizeOf0
  v0 := Try.zeroValue0
  t3 := Try.underlying3
  a3 := Try.isAgg3
  z3 := Try.sizeOf3
  v3 := Try.zeroValue3
  t4 := Try.underlying4
  a4 := Try.isAgg4
  z4 := Try.sizeOf4
  v4 := Try.zeroValue4
  t5 := Try.underlying5
  a5 := Try.isAgg5
  z5 := Try.sizeOf5
  v5 := Try.zeroValue5
  t9 := Try.underlying9
  a9 := Try.isAgg9
  z9 := Try.sizeOf9
  v9 := Try.zeroValue9
  t28 := Try.underlying24
  a28 := Try.isAgg24
  z28 := Try.sizeOf24
  v28 := Try.zeroValue24
  t46 := Try.underlying136
  a46 := Try.isAgg136
  z46 := Try.sizeOf136
  v46 := Try.zeroValue136
  t51 := Try.underlying154
  a51 := Try.isAgg154
  z51 := Try.sizeOf154
  v51 := Try.zeroValue154
  t53 := Try.underlying156
  a53 := Try.isAgg156
  z53 := Try.sizeOf156
  v53 := Try.zeroValue156
  t131 := Try.underlying88
  a131 := Try.isAgg88
  z131 := Try.sizeOf88
  v131 := Try.zeroValue88
  t182 := Try.underlying147
  a182 := Try.isAgg147
  z182 := Try.sizeOf147
  v182 := Try.zeroValue147
  t183 := Try.underlying148
  a183 := Try.isAgg148
  z183 := Try.sizeOf148
  v183 := Try.zeroValue148
  t218 := Try.underlying164
  a218 := Try.isAgg164
  z218 := Try.sizeOf164
  v218 := Try.zeroValue164
  t222 := Try.underlying168
  a222 := Try.isAgg168
  z222 := Try.sizeOf168
  v222 := Try.zeroValue168
  t228 := Try.underlying171
  a228 := Try.isAgg171
  z228 := Try.sizeOf171
  v228 := Try.zeroValue171
  t229 := Try.underlying172
  a229 := Try.isAgg172
  z229 := Try.sizeOf172
  v229 := Try.zeroValue172 }
open Go.Sort Go.RowKit in
theorem Try.slices_Sort_int (blk off cap : Nat) (zs : List Int) (w : World) (hH : Holds (Value.int .i64) w blk off zs.toArray) (hblk : blk < w.heap.size) (hsz : zs.length < 4611686018427387904) :
    Calls Try.prog 80 #[.slice (some ⟨blk, off, none⟩) zs.length cap] w fun e w' =>
      e = .returned (.tuple #[]) ∧ ∃ n os, w' = grow (putRow (Value.int .i64) (Sort.ahead w n) blk off (zs.mergeSort fun x y => decide (x ≤ y)).toArray) os := Any.slices_Sort_int Try.lays189 blk off cap zs w hH hblk hsz
open Go.RowKit Go.Sort in
/-- .. and plain. (LAID: no walk: one application.) -/
theorem Try.slices_Sort_int_none (p : Option Addr) (cap : Nat) (w : World) :
    Calls Try.prog 80 #[.slice p 0 cap] w fun e w' => e = .returned (.tuple #[]) ∧ w' = w := Any.slices_Sort_int_none Try.lays189 p cap w
end Go.Proofs
/- slices.Sort of this program. -/
namespace Go.Proofs.Ytalcanejhniepaa
theorem sort_ctr (A : Option Addr) (n c : Nat) (zs : List Int) (L : List HP) (hA : 0 < n → ∃ b, A = some ⟨b, 0, none⟩) (hn : zs.length = n) (hbig : n ≤ 1000000) :
    Ctr Try.prog 80 #[.slice A n c] (own 3 1 A n c (flat zs) :: L) fun v L' => v = .tuple #[] ∧ L' = own 3 1 A n c (flat (srt zs)) :: L := by
  rcases Nat.eq_zero_or_pos n with h0 | h0
  · subst h0
    have hz : zs = [] := List.eq_nil_of_length_eq_zero hn
    subst hz
    intro g F w hw
    refine (Try.slices_Sort_int_none A c w).mono fun e w' ⟨h1, h2⟩ => ?_
    subst h2
    exact ⟨_, _, h1, ⟨rfl, rfl⟩, by rw [show srt [] = [] by simp [srt]]; exact hw⟩
  · intro g F w hw
    obtain ⟨b, rfl⟩ := hA h0
    exact sort_of_shelf b n c zs L hn h0 (fun w hH hb => Try.slices_Sort_int b 0 c zs w hH hb (by omega)) g F w hw
end Go.Proofs.Ytalcanejhniepaa
/- Trees that are heaps by Y: all that a window sees. -/
namespace Go.Proofs.Ytalcanejhniepaa
set_option linter.unusedVariables false
set_option linter.unusedSimpArgs false
set_option maxRecDepth 100000

def PA.id : PA → Int
  | .nil => 0
  | .node _ p _ _ _ => p.id
def PA.seen (w : Wn) : PA → List Int
  | .nil => []
  | .node _ p s lo hi => (if w.sees p.x p.y then [p.id] else []) ++ (if p.y < w.y then [] else (if !lo.isN && decide (w.x1 ≤ s.x) then lo.seen w else []) ++ (if !hi.isN && decide (s.x ≤ w.x2) then hi.seen w else []))
def seenL (w : Wn) (l : List PA) : List Int := l.flatMap (PA.seen w)
theorem PA.seen_eq (w : Wn) (x : PA) : x.seen w = (if x.hit w then [x.id] else []) ++ seenL w (x.next w) := by
  cases x with
  | nil => rfl
  | node b p s lo hi =>
    simp only [PA.seen, PA.hit, PA.id, PA.next, PA.next1, PA.next2, seenL]
    congr 1
    by_cases hy : p.y < w.y
    · simp [hy]
    · simp only [hy, if_false, List.flatMap_append]
      congr 1 <;> split <;> simp
def wt (l : List PA) : Nat := (l.map fun x => 2 * x.t.size + 1).sum
theorem wt_cons (x : PA) (l : List PA) : wt (x :: l) = 2 * x.t.size + 1 + wt l := by simp [wt]
theorem wt_append (l m : List PA) : wt (l ++ m) = wt l + wt m := by simp [wt]
theorem PA.wt_next (w : Wn) (x : PA) : wt (x.next w) ≤ 2 * x.t.size := by
  cases x with
  | nil => simp [PA.next, PA.next1, PA.next2, wt]
  | node b p s lo hi =>
    unfold PA.next
    rw [wt_append]
    have h1 : wt ((PA.node b p s lo hi).next1 w) ≤ 2 * lo.t.size + 1 := by
      simp only [PA.next1]
      split
      · simp [wt]
      · split
        · simp [wt]
        · simp [wt]
    have h2 : wt ((PA.node b p s lo hi).next2 w) ≤ 2 * hi.t.size + 1 := by
      simp only [PA.next2]
      split
      · simp [wt]
      · split
        · simp [wt]
        · simp [wt]
    simp only [PA.t, PT.size]
    omega
theorem PA.seen_len (w : Wn) : ∀ x : PA, (x.seen w).length ≤ x.t.size
  | .nil => Nat.le_refl _
  | .node b p s lo hi => by
    have h1 := seen_len w lo
    have h2 := seen_len w hi
    simp only [PA.seen, PA.t, PT.size, List.length_append]
    have a1 : (if w.sees p.x p.y then [p.id] else []).length ≤ 1 := by split <;> simp
    have a2 : (if p.y < w.y then [] else (if !lo.isN && decide (w.x1 ≤ s.x) then lo.seen w else []) ++ (if !hi.isN && decide (s.x ≤ w.x2) then hi.seen w else [])).length ≤ lo.t.size + hi.t.size := by
      split
      · simp
      · rw [List.length_append]
        have b1 : (if !lo.isN && decide (w.x1 ≤ s.x) then lo.seen w else []).length ≤ lo.t.size := by split <;> (try simp) <;> (try omega)
        have b2 : (if !hi.isN && decide (s.x ≤ w.x2) then hi.seen w else []).length ≤ hi.t.size := by split <;> (try simp) <;> (try omega)
        omega
    omega
theorem seenL_len (w : Wn) (l : List PA) : (seenL w l).length ≤ wt l := by
  induction l with
  | nil => simp [seenL]
  | cons x l ih =>
    have := x.seen_len w
    rw [wt_cons]
    simp only [seenL, List.flatMap_cons, List.length_append] at *
    omega
theorem seenL_take (w : Wn) (l : List PA) (k : Nat) (x : PA) (h : l[k]? = some x) : seenL w (l.take (k + 1)) = seenL w (l.take k) ++ x.seen w := by
  obtain ⟨h1, h2⟩ := List.getElem?_eq_some_iff.1 h
  unfold seenL
  rw [List.take_succ_eq_append_getElem h1, h2, List.flatMap_append]
  simp
theorem next_in {L : List HP} {x : PA} (w : Wn) (h : PIn L x) : ∀ y ∈ x.next w, PIn L y := by
  cases x with
  | nil => intro y hy; simp [PA.next, PA.next1, PA.next2] at hy
  | node b p s lo hi =>
    intro y hy
    simp only [PA.next, PA.next1, PA.next2] at hy
    rcases List.mem_append.1 hy with hy | hy
    · split at hy
      · cases hy
      · split at hy
        · rw [List.mem_singleton] at hy; subst hy; exact h.2.1
        · cases hy
    · split at hy
      · cases hy
      · split at hy
        · rw [List.mem_singleton] at hy; subst hy; exact h.2.2
        · cases hy
end Go.Proofs.Ytalcanejhniepaa
/- Trees that are heaps by Y: seen, report. -/
namespace Go.Proofs.Ytalcanejhniepaa
attribute [local irreducible] sat
set_option linter.unusedVariables false
set_option linter.unusedSimpArgs false
set_option maxRecDepth 100000

theorem len_wt : ∀ l : List PA, l.length ≤ wt l
  | [] => Nat.le_refl _
  | y :: l => by have := len_wt l; rw [wt_cons, List.length_cons]; omega
theorem seen_ctr : ∀ (N : Nat) (w : Wn) (xs : List PA) (A : Option Addr) (n c : Nat) (L : List HP), wt xs = N → wt xs ≤ 300000 → n ≤ 300000 → (∀ x ∈ xs, PIn L x) → Rd L A n (addrs xs) →
    Ctr Try.prog 79 #[.agg #[.int .i64 w.x1, .int .i64 w.x2, .int .i64 w.y], .slice A n c] L fun v L' => Made 3 (seenL w xs) L v L' := by
  intro N
  induction N using Nat.strongRecOn with
  | _ N ih =>
    intro w xs A n c L hN hbig hn hx hr
    have h1 : xs.length = n := by rw [← addrs_len]; exact hr.len (by decide)
    refine Ctr_of (fn := Try.f79) (n := 38) Try.func79 rfl rfl rfl ?_
    intro g F
    (repeat first | refine G_seq ?_ | refine G_skip ?_ | refine G_endblk ?_ | refine G_block ?_ | refine G_exit rfl ?_)
    refine G_region ?_
    refine GO_eff rfl rfl (eff_box rfl) ?_; rintro _ _ ⟨b2, rfl, rfl⟩
    refine GO_q rfl rfl (ev_assign rfl) ?_
    refine GO_nil ?_
    (repeat first | refine G_seq ?_ | refine G_skip ?_ | refine G_endblk ?_ | refine G_block ?_ | refine G_exit rfl ?_)
    refine G_region ?_
    refine GO_q rfl rfl (ev_assign rfl) ?_
    refine GO_nil ?_
    (repeat first | refine G_seq ?_ | refine G_skip ?_ | refine G_endblk ?_ | refine G_block ?_ | refine G_exit rfl ?_)
    refine G_region ?_
    refine GO_q rfl rfl (ev_move rfl) ?_
    refine GO_q rfl rfl (ev_len rfl) ?_
    refine GO_q rfl rfl (ev_move rfl) ?_
    refine GO_nil ?_
    (repeat first | refine G_seq ?_ | refine G_skip ?_ | refine G_endblk ?_ | refine G_block ?_ | refine G_exit rfl ?_)
    refine G_heap (own.nil_ 3 1) ?_
    refine G_loop (ι := Nat × Option Addr × Nat × List Int) (fun x => [(2, .pointer (some ⟨b2, 0, none⟩)), (5, .slice x.2.1 x.2.2.2.length x.2.2.1), (10, .slice A n c), (11, .int .i64 (n : Nat)), (12, .int .i64 (x.1 : Nat))]) (fun x => own 3 1 x.2.1 x.2.2.2.length x.2.2.1 (flat x.2.2.2) :: blk b2 45 [.int .i64 w.x1, .int .i64 w.x2, .int .i64 w.y] :: F :: L)
      (fun x => x.1 ≤ n ∧ x.2.2.2 = seenL w (xs.take x.1) ∧ (0 < x.2.2.2.length → ∃ b, x.2.1 = some ⟨b, 0, none⟩)) (fun x => n - x.1) (0, none, 0, []) ⟨Nat.zero_le _, by simp [seenL], fun h => absurd h (Nat.lt_irrefl 0)⟩ ⟨rfl, rfl, rfl, rfl, rfl, trivial⟩ (by (repeat first | exact en_refl | (apply en_blk; focus ((repeat' first | exact Pick.here | apply Pick.skip | apply Pick.app); done); focus rfl) | (apply en_own; focus ((repeat' first | exact Pick.here | apply Pick.skip | apply Pick.app); done); focus rfl) | (apply en_pick; focus ((repeat' first | exact Pick.here | apply Pick.skip | apply Pick.app); done)) | apply en_drop | apply en_app) <;> fail) ?_
    rintro ⟨k, A1, c1, zs⟩ ⟨f1, f2, f3⟩
    simp only at f1 f2 f3
    dsimp only
    (repeat first | refine G_seq ?_ | refine G_skip ?_ | refine G_endblk ?_ | refine G_block ?_ | refine G_exit rfl ?_)
    refine G_region ?_
    (first | refine GO_q rfl rfl (ev_lssN rfl rfl) ?_ | refine GO_q rfl rfl (ev_lss rfl rfl) ?_)
    refine GO_nil ?_
    (repeat first | refine G_seq ?_ | refine G_skip ?_ | refine G_endblk ?_ | refine G_block ?_ | refine G_exit rfl ?_)
    refine G_cond rfl (fun h4 => ?_) (fun h4 => ?_)
    · obtain ⟨lb, lo, rfl, hx2⟩ := hr.at_ (by omega)
      have g1 : xs[k]? = some xs[k] := List.getElem?_eq_getElem (by omega)
      have g2 : (addrs xs)[k]? = some xs[k].addr := by simp [addrs, g1]
      have y1 := (hx2 _ _ g2).at_ (i := 0) rfl
      have hk := seenL_take w xs k _ g1
      have hin := hx _ (List.getElem_mem (by omega : k < xs.length))
      have hse := xs[k].seen_eq w
      have hwn := xs[k].wt_next w
      have hsl := seenL_len w (xs.take k)
      have hwt : wt (xs.take k) + (2 * xs[k].t.size + 1) ≤ wt xs := by
        have e : wt (xs.take (k + 1)) ≤ wt xs := by
          conv => rhs; rw [← List.take_append_drop (k + 1) xs]
          rw [wt_append]; omega
        rw [List.take_succ_eq_append_getElem (by omega), wt_append, wt_cons] at e
        simp [wt] at e ⊢
        omega
      generalize xs[k] = x at *
      have z1 : Ld L ⟨lb, lo + k * 1, none⟩ (.pointer x.addr) := y1
      have hzl : zs.length ≤ wt (xs.take k) := by rw [f2]; exact hsl
      have hnl := seenL_len w (x.next w)
      (repeat first | refine G_seq ?_ | refine G_skip ?_ | refine G_endblk ?_ | refine G_block ?_ | refine G_exit rfl ?_)
      refine G_region ?_
      (first | refine GO_q rfl rfl (ev_indexAddrN rfl rfl (by first | omega | (simp; done) | (simp; omega))) ?_ | refine GO_q rfl rfl (ev_indexAddr rfl rfl (by first | omega | (simp; done) | (simp; omega)) (by first | omega | (simp; done) | (simp; omega))) ?_)
      refine GO_q rfl rfl (ev_load rfl (by repeat' first | exact Ld.blk rfl | assumption | apply Ld.skip | apply Ld.app)) ?_
      refine GO_q rfl rfl (ev_assign rfl) ?_
      refine GO_nil ?_
      (repeat first | refine G_seq ?_ | refine G_skip ?_ | refine G_endblk ?_ | refine G_block ?_ | refine G_exit rfl ?_)
      refine G_region ?_
      refine GO_q rfl rfl (ev_move rfl) ?_
      refine GO_q rfl rfl (ev_loadN rfl (by repeat' first | exact LdN.blk rfl | assumption | apply LdN.skip | apply LdN.app)) ?_
      refine GO_eff rfl rfl (eff_call rfl (look_ctr x w _ hin.skip.skip.skip)) ?_; rintro _ _ ⟨A19, c19, rfl, hA19, rfl⟩
      refine GO_q rfl rfl (ev_move rfl) ?_
      refine GO_q rfl rfl (ev_extract rfl rfl) ?_
      refine GO_q rfl rfl (ev_extract rfl rfl) ?_
      refine GO_q rfl rfl (ev_assign rfl) ?_
      refine GO_q rfl rfl (ev_assign rfl) ?_
      refine GO_nil ?_
      (repeat first | refine G_seq ?_ | refine G_skip ?_ | refine G_endblk ?_ | refine G_block ?_ | refine G_exit rfl ?_)
      refine G_region ?_
      refine GO_q rfl rfl (ev_move rfl) ?_
      refine GO_nil ?_
      have hnx : ∀ L', Rc (own 67 1 A19 (x.next w).length c19 (flat (addrs (x.next w))) :: L') 1 A19 (x.next w).length (flat (addrs (x.next w))) := fun L' => Rc.own (by rw [flat_length, addrs_len]; rfl) hA19
      have hnw := len_wt (x.next w)
      cases hh : x.hit w with
      | true =>
        cases x with
        | nil => cases hh
        | node b p s lo_ hi_ =>
          obtain ⟨q1, q2, q3, q4, q5, q6, q7, q8, q9⟩ := hin.f
          rw [hh] at hse
          (repeat first | refine G_seq ?_ | refine G_skip ?_ | refine G_endblk ?_ | refine G_block ?_ | refine G_exit rfl ?_)
          refine G_cond_t rfl rfl ?_
          (repeat first | refine G_seq ?_ | refine G_skip ?_ | refine G_endblk ?_ | refine G_block ?_ | refine G_exit rfl ?_)
          refine G_region ?_
          refine GO_q rfl rfl (ev_move rfl) ?_
          refine GO_q rfl rfl (ev_move rfl) ?_
          (first | refine GO_q rfl rfl (ev_nilCheck rfl) ?_ | refine GO_q rfl rfl (ev_nilCheckF (by simp) rfl) ?_)
          refine GO_q rfl rfl (ev_fieldAddr rfl) ?_
          refine GO_q rfl rfl (ev_fieldAddr rfl) ?_
          refine GO_q rfl rfl (ev_load rfl (by repeat' first | exact Ld.blk rfl | assumption | apply Ld.skip | apply Ld.app)) ?_
          refine GO_eff rfl rfl (eff_buildSlice1 (by rfl) rfl rfl) ?_; rintro _ _ ⟨b29, rfl, rfl⟩
          refine GO_eff rfl rfl (eff_append rfl rfl (by repeat' first | exact Pick.here | apply Pick.skip) (by repeat' first | exact Rc.blk rfl | assumption | apply Rc.skip) (one_all rfl) (by rfl) (by decide) (by first | omega | (simp; done) | (simp; omega)) (by first | omega | (simp; done) | (simp; omega))) ?_; rintro _ _ ⟨A30, c30, rfl, hc30, hm30, hn30, rfl⟩
          refine GO_q rfl rfl (ev_assign rfl) ?_
          refine GO_nil ?_
          (repeat first | refine G_seq ?_ | refine G_skip ?_ | refine G_endblk ?_ | refine G_block ?_ | refine G_exit rfl ?_)
          refine G_region ?_
          refine GO_q rfl rfl (ev_move rfl) ?_
          refine GO_q rfl rfl (ev_loadN rfl (by repeat' first | exact LdN.blk rfl | assumption | apply LdN.skip | apply LdN.app)) ?_
          refine GO_q rfl rfl (ev_move rfl) ?_
          refine GO_eff rfl rfl (eff_call rfl (ih (wt ((PA.node b p s lo_ hi_).next w)) (by omega) w _ A19 _ c19 _ rfl (by omega) (by omega) (fun y hy => by have h9 := next_in w hin y hy; repeat' first | exact h9 | apply PIn.skip) (by repeat' first | exact hnx _ | apply Rd.skip))) ?_; rintro _ _ ⟨A34, c34, rfl, hA34, rfl⟩
          refine GO_eff rfl rfl (eff_append rfl rfl (by repeat' first | exact Pick.here | apply Pick.skip) ((by repeat' first | exact Rc.own (flat_length _) hA34 | apply Rc.skip)) ((flat_one _)) (by rfl) (by decide) (by first | omega | (simp; done) | (simp; omega)) (by first | omega | (simp; done) | (simp; omega))) ?_; rintro _ _ ⟨A35, c35, rfl, hc35, hm35, hn35, rfl⟩
          refine GO_q rfl rfl (ev_assign rfl) ?_
          refine GO_nil ?_
          (repeat first | refine G_seq ?_ | refine G_skip ?_ | refine G_endblk ?_ | refine G_block ?_ | refine G_exit rfl ?_)
          refine G_region ?_
          (first | refine GO_q rfl rfl (ev_addN (q := 1) rfl rfl (by first | omega | (simp; done) | (simp; omega))) ?_ | refine GO_q rfl rfl (ev_add rfl rfl (by first | omega | (simp; done) | (simp; omega))) ?_)
          refine GO_q rfl rfl (ev_move rfl) ?_
          refine GO_nil ?_
          (repeat first | refine G_seq ?_ | refine G_skip ?_ | refine G_endblk ?_ | refine G_block ?_ | refine G_exit rfl ?_)
          have e9 : seenL w (xs.take (k + 1)) = (zs ++ [p.id]) ++ seenL w ((PA.node b p s lo_ hi_).next w) := by rw [hk, hse, f2, if_pos rfl, List.append_assoc]; rfl
          have l9 : ((zs ++ [p.id]) ++ seenL w ((PA.node b p s lo_ hi_).next w)).length = zs.length + 1 + (seenL w ((PA.node b p s lo_ hi_).next w)).length := by rw [List.length_append, List.length_append]; rfl
          exact G_round (k + 1, A35, c35, (zs ++ [p.id]) ++ seenL w ((PA.node b p s lo_ hi_).next w)) ⟨by simp only; omega, e9.symm, fun _ => hn35 (by omega)⟩ (by simp only; omega) ⟨rfl, by rw [l9]; rfl, rfl, rfl, rfl, trivial⟩ (by
            rw [l9, flat_append, flat_append]
            exact (by (repeat first | exact en_refl | (apply en_blk; focus ((repeat' first | exact Pick.here | apply Pick.skip | apply Pick.app); done); focus rfl) | (apply en_own; focus ((repeat' first | exact Pick.here | apply Pick.skip | apply Pick.app); done); focus rfl) | (apply en_pick; focus ((repeat' first | exact Pick.here | apply Pick.skip | apply Pick.app); done)) | apply en_drop | apply en_app) <;> fail))
      | false =>
        rw [hh] at hse
        (repeat first | refine G_seq ?_ | refine G_skip ?_ | refine G_endblk ?_ | refine G_block ?_ | refine G_exit rfl ?_)
        refine G_cond_f rfl rfl ?_
        (repeat first | refine G_seq ?_ | refine G_skip ?_ | refine G_endblk ?_ | refine G_block ?_ | refine G_exit rfl ?_)
        refine G_region ?_
        refine GO_q rfl rfl (ev_move rfl) ?_
        refine GO_q rfl rfl (ev_loadN rfl (by repeat' first | exact LdN.blk rfl | assumption | apply LdN.skip | apply LdN.app)) ?_
        refine GO_q rfl rfl (ev_move rfl) ?_
        refine GO_eff rfl rfl (eff_call rfl (ih (wt (x.next w)) (by omega) w _ A19 _ c19 _ rfl (by omega) (by omega) (fun y hy => by have h9 := next_in w hin y hy; repeat' first | exact h9 | apply PIn.skip) (by repeat' first | exact hnx _ | apply Rd.skip))) ?_; rintro _ _ ⟨A34, c34, rfl, hA34, rfl⟩
        refine GO_eff rfl rfl (eff_append rfl rfl (by repeat' first | exact Pick.here | apply Pick.skip) ((by repeat' first | exact Rc.own (flat_length _) hA34 | apply Rc.skip)) ((flat_one _)) (by rfl) (by decide) (by first | omega | (simp; done) | (simp; omega)) (by first | omega | (simp; done) | (simp; omega))) ?_; rintro _ _ ⟨A35, c35, rfl, hc35, hm35, hn35, rfl⟩
        refine GO_q rfl rfl (ev_assign rfl) ?_
        refine GO_nil ?_
        (repeat first | refine G_seq ?_ | refine G_skip ?_ | refine G_endblk ?_ | refine G_block ?_ | refine G_exit rfl ?_)
        refine G_region ?_
        (first | refine GO_q rfl rfl (ev_addN (q := 1) rfl rfl (by first | omega | (simp; done) | (simp; omega))) ?_ | refine GO_q rfl rfl (ev_add rfl rfl (by first | omega | (simp; done) | (simp; omega))) ?_)
        refine GO_q rfl rfl (ev_move rfl) ?_
        refine GO_nil ?_
        (repeat first | refine G_seq ?_ | refine G_skip ?_ | refine G_endblk ?_ | refine G_block ?_ | refine G_exit rfl ?_)
        have e9 : seenL w (xs.take (k + 1)) = zs ++ seenL w (x.next w) := by rw [hk, hse, f2, if_neg (by simp)]; rfl
        have l9 : (zs ++ seenL w (x.next w)).length = zs.length + (seenL w (x.next w)).length := List.length_append
        exact G_round (k + 1, A35, c35, zs ++ seenL w (x.next w)) ⟨by simp only; omega, e9.symm, fun h => hn35 (by rw [← l9]; exact h)⟩ (by simp only; omega) ⟨rfl, by rw [l9]; rfl, rfl, rfl, rfl, trivial⟩ (by
          rw [l9, flat_append]
          exact (by (repeat first | exact en_refl | (apply en_blk; focus ((repeat' first | exact Pick.here | apply Pick.skip | apply Pick.app); done); focus rfl) | (apply en_own; focus ((repeat' first | exact Pick.here | apply Pick.skip | apply Pick.app); done); focus rfl) | (apply en_pick; focus ((repeat' first | exact Pick.here | apply Pick.skip | apply Pick.app); done)) | apply en_drop | apply en_app) <;> fail))
    · have e : k = n := by omega
      subst e
      rw [← h1, List.take_length] at f2
      (repeat first | refine G_seq ?_ | refine G_skip ?_ | refine G_endblk ?_ | refine G_block ?_ | refine G_exit rfl ?_)
      refine G_region ?_
      refine GO_q rfl rfl (ev_move rfl) ?_
      refine GO_q rfl rfl (ev_assign rfl) ?_
      refine GO_nil ?_
      (repeat first | refine G_seq ?_ | refine G_skip ?_ | refine G_endblk ?_ | refine G_block ?_ | refine G_exit rfl ?_)
      rw [← f2]
      exact G_ret (L' := own 3 1 A1 zs.length c1 (flat zs) :: L) rfl (.tmp rfl .nil) (by (repeat first | exact en_refl | (apply en_blk; focus ((repeat' first | exact Pick.here | apply Pick.skip | apply Pick.app); done); focus rfl) | (apply en_own; focus ((repeat' first | exact Pick.here | apply Pick.skip | apply Pick.app); done); focus rfl) | (apply en_pick; focus ((repeat' first | exact Pick.here | apply Pick.skip | apply Pick.app); done)) | apply en_drop | apply en_app) <;> fail) ⟨A1, c1, rfl, f3, rfl⟩
/-- A tree as a whole: its root, and how many there may be. -/
@[reducible] def treeC (x : PA) (most : Int) : List Value := [.pointer x.addr, .int .i64 most]
theorem top_ctr (b : Nat) (x : PA) (most : Int) (L : List HP) (h : LdN L b 0 2 (treeC x most)) : Ctr Try.prog 55 #[.pointer (some ⟨b, 0, none⟩)] L fun v L' => v = .pointer x.addr ∧ L' = L := by
  have h1 : Ld L ⟨b, 0 + 0, none⟩ (.pointer x.addr) := h.at_ (i := 0) rfl
  refine Ctr_of (fn := Try.f55) (n := 9) Try.func55 rfl rfl rfl ?_
  intro g F
  (repeat first | refine G_seq ?_ | refine G_skip ?_ | refine G_endblk ?_ | refine G_block ?_ | refine G_exit rfl ?_)
  refine G_region ?_
  refine GO_q rfl rfl (ev_assign rfl) ?_
  refine GO_nil ?_
  (repeat first | refine G_seq ?_ | refine G_skip ?_ | refine G_endblk ?_ | refine G_block ?_ | refine G_exit rfl ?_)
  refine G_region ?_
  refine GO_q rfl rfl (ev_move rfl) ?_
  (first | refine GO_q rfl rfl (ev_eqlNil rfl rfl) ?_ | refine GO_q rfl rfl (ev_eqlPtr rfl rfl) ?_)
  refine GO_nil ?_
  (repeat first | refine G_seq ?_ | refine G_skip ?_ | refine G_endblk ?_ | refine G_block ?_ | refine G_exit rfl ?_)
  refine G_cond_f rfl rfl ?_
  (repeat first | refine G_seq ?_ | refine G_skip ?_ | refine G_endblk ?_ | refine G_block ?_ | refine G_exit rfl ?_)
  refine G_region ?_
  refine GO_q rfl rfl (ev_move rfl) ?_
  (first | refine GO_q rfl rfl (ev_nilCheck rfl) ?_ | refine GO_q rfl rfl (ev_nilCheckF (by simp) rfl) ?_)
  refine GO_q rfl rfl (ev_fieldAddr rfl) ?_
  refine GO_q rfl rfl (ev_load rfl (by repeat' first | exact Ld.blk rfl | assumption | apply Ld.skip | apply Ld.app)) ?_
  refine GO_q rfl rfl (ev_assign rfl) ?_
  refine GO_nil ?_
  (repeat first | refine G_seq ?_ | refine G_skip ?_ | refine G_endblk ?_ | refine G_block ?_ | refine G_exit rfl ?_)
  refine G_ret rfl (.tmp rfl .nil) (by (repeat first | exact fun _ s => s | apply en_keep | apply en_drop | apply en_app) <;> fail) ⟨rfl, rfl⟩
theorem Root_ctr (b : Nat) (x : PA) (most : Int) (L : List HP) (h : LdN L b 0 2 (treeC x most)) : Ctr Try.prog 34 #[.pointer (some ⟨b, 0, none⟩)] L fun v L' => v = .pointer x.addr ∧ L' = L := by
  refine Ctr_of (fn := Try.f34) (n := 5) Try.func34 rfl rfl rfl ?_
  intro g F
  (repeat first | refine G_seq ?_ | refine G_skip ?_ | refine G_endblk ?_ | refine G_block ?_ | refine G_exit rfl ?_)
  refine G_region ?_
  refine GO_q rfl rfl (ev_assign rfl) ?_
  refine GO_nil ?_
  (repeat first | refine G_seq ?_ | refine G_skip ?_ | refine G_endblk ?_ | refine G_block ?_ | refine G_exit rfl ?_)
  refine G_region ?_
  refine GO_q rfl rfl (ev_move rfl) ?_
  refine GO_eff rfl rfl (eff_call rfl (top_ctr b x most _ h.skip)) ?_; rintro _ _ ⟨rfl, rfl⟩
  refine GO_q rfl rfl (ev_assign rfl) ?_
  refine GO_nil ?_
  (repeat first | refine G_seq ?_ | refine G_skip ?_ | refine G_endblk ?_ | refine G_block ?_ | refine G_exit rfl ?_)
  refine G_ret rfl (.tmp rfl .nil) (by (repeat first | exact fun _ s => s | apply en_keep | apply en_drop | apply en_app) <;> fail) ⟨rfl, rfl⟩
theorem PLen_ctr (b : Nat) (x : PA) (most : Int) (L : List HP) (h : LdN L b 0 2 (treeC x most)) (hx : PIn L x) : Ctr Try.prog 23 #[.pointer (some ⟨b, 0, none⟩)] L fun v L' => v = .int .i64 (x.t.size : Nat) ∧ L' = L := by
  refine Ctr_of (fn := Try.f23) (n := 6) Try.func23 rfl rfl rfl ?_
  intro g F
  (repeat first | refine G_seq ?_ | refine G_skip ?_ | refine G_endblk ?_ | refine G_block ?_ | refine G_exit rfl ?_)
  refine G_region ?_
  refine GO_q rfl rfl (ev_assign rfl) ?_
  refine GO_nil ?_
  (repeat first | refine G_seq ?_ | refine G_skip ?_ | refine G_endblk ?_ | refine G_block ?_ | refine G_exit rfl ?_)
  refine G_region ?_
  refine GO_q rfl rfl (ev_move rfl) ?_
  refine GO_eff rfl rfl (eff_call rfl (top_ctr b x most _ h.skip)) ?_; rintro _ _ ⟨rfl, rfl⟩
  refine GO_eff rfl rfl (eff_call rfl (rsize_ctr x _ hx.skip)) ?_; rintro _ _ ⟨rfl, rfl⟩
  refine GO_q rfl rfl (ev_assign rfl) ?_
  refine GO_nil ?_
  (repeat first | refine G_seq ?_ | refine G_skip ?_ | refine G_endblk ?_ | refine G_block ?_ | refine G_exit rfl ?_)
  refine G_ret rfl (.tmp rfl .nil) (by (repeat first | exact fun _ s => s | apply en_keep | apply en_drop | apply en_app) <;> fail) ⟨rfl, rfl⟩
theorem PDepth_ctr (b : Nat) (x : PA) (most : Int) (L : List HP) (h : LdN L b 0 2 (treeC x most)) (hx : PIn L x) (hs : x.t.size ≤ 100000) : Ctr Try.prog 28 #[.pointer (some ⟨b, 0, none⟩)] L fun v L' => v = .int .i64 (x.t.depth : Nat) ∧ L' = L := by
  refine Ctr_of (fn := Try.f28) (n := 6) Try.func28 rfl rfl rfl ?_
  intro g F
  (repeat first | refine G_seq ?_ | refine G_skip ?_ | refine G_endblk ?_ | refine G_block ?_ | refine G_exit rfl ?_)
  refine G_region ?_
  refine GO_q rfl rfl (ev_assign rfl) ?_
  refine GO_nil ?_
  (repeat first | refine G_seq ?_ | refine G_skip ?_ | refine G_endblk ?_ | refine G_block ?_ | refine G_exit rfl ?_)
  refine G_region ?_
  refine GO_q rfl rfl (ev_move rfl) ?_
  refine GO_eff rfl rfl (eff_call rfl (top_ctr b x most _ h.skip)) ?_; rintro _ _ ⟨rfl, rfl⟩
  refine GO_eff rfl rfl (eff_call rfl (depth_ctr x _ hx.skip hs)) ?_; rintro _ _ ⟨rfl, rfl⟩
  refine GO_q rfl rfl (ev_assign rfl) ?_
  refine GO_nil ?_
  (repeat first | refine G_seq ?_ | refine G_skip ?_ | refine G_endblk ?_ | refine G_block ?_ | refine G_exit rfl ?_)
  refine G_ret rfl (.tmp rfl .nil) (by (repeat first | exact fun _ s => s | apply en_keep | apply en_drop | apply en_app) <;> fail) ⟨rfl, rfl⟩
/-- What a window sees, rising. -/
theorem report_ctr (b : Nat) (x : PA) (most : Int) (w : Wn) (L : List HP) (h : LdN L b 0 2 (treeC x most)) (hx : PIn L x) (hs : x.t.size ≤ 100000) :
    Ctr Try.prog 53 #[.pointer (some ⟨b, 0, none⟩), .agg #[.int .i64 w.x1, .int .i64 w.x2, .int .i64 w.y]] L fun v L' => Made 3 (srt (x.seen w)) L v L' := by
  have hsl : (srt (x.seen w)).length = (x.seen w).length := by rw [srt, List.length_mergeSort]
  have hl := x.seen_len w
  have hS : seenL w [x] = x.seen w := by simp [seenL]
  have hw : wt [x] = 2 * x.t.size + 1 := by simp [wt]
  have Z := fun A c L' h1 h2 => seen_ctr (wt [x]) w [x] A 1 c L' rfl (by omega) (by omega) h1 h2
  rw [hS] at Z
  refine Ctr_of (fn := Try.f53) (n := 14) Try.func53 rfl rfl rfl ?_
  intro g F
  have hxs : ∀ B1 B2, ∀ y ∈ [x], PIn (B1 :: B2 :: F :: L) y := fun B1 B2 y hy => by
    rw [List.mem_singleton] at hy; subst hy; exact hx.skip.skip.skip
  (repeat first | refine G_seq ?_ | refine G_skip ?_ | refine G_endblk ?_ | refine G_block ?_ | refine G_exit rfl ?_)
  refine G_region ?_
  refine GO_eff rfl rfl (eff_box rfl) ?_; rintro _ _ ⟨b3, rfl, rfl⟩
  refine GO_q rfl rfl (ev_assign rfl) ?_
  refine GO_nil ?_
  (repeat first | refine G_seq ?_ | refine G_skip ?_ | refine G_endblk ?_ | refine G_block ?_ | refine G_exit rfl ?_)
  refine G_draw (.q 0 (.q 1 (.e 2 (.e 3 (.e 4 (.q 5 .nil)))))) (by kernel_rfl) (by kernel_rfl) ?_
  refine RS_q retB_noPanic rfl rfl rfl rfl (ev_loadN rfl (by repeat' first | exact LdN.blk rfl | assumption | apply LdN.skip | apply LdN.app)) ?_
  refine RS_m retB_noPanic rfl rfl rfl rfl (ev_move rfl) ?_
  refine RS_e (RE_eff rfl rfl rfl (eff_call rfl (top_ctr b x most _ h.skip.skip)) ?_); rintro _ _ ⟨rfl, rfl⟩; refine ⟨_, fun _ s => s, (by first | ((repeat first | exact fun _ s => s | apply en_keep | apply en_drop | apply en_app) <;> fail) | ((repeat first | exact en_refl | (apply en_blk; focus ((repeat' first | exact Pick.here | apply Pick.skip | apply Pick.app); done); focus rfl) | (apply en_own; focus ((repeat' first | exact Pick.here | apply Pick.skip | apply Pick.app); done); focus rfl) | (apply en_pick; focus ((repeat' first | exact Pick.here | apply Pick.skip | apply Pick.app); done)) | apply en_drop | apply en_app) <;> fail)), ?_⟩
  refine RS_e (RE_eff rfl rfl rfl (eff_buildSlice1 (by rfl) rfl rfl) ?_); rintro _ _ ⟨b9, rfl, rfl⟩; refine ⟨_, fun _ s => s, (by first | ((repeat first | exact fun _ s => s | apply en_keep | apply en_drop | apply en_app) <;> fail) | ((repeat first | exact en_refl | (apply en_blk; focus ((repeat' first | exact Pick.here | apply Pick.skip | apply Pick.app); done); focus rfl) | (apply en_own; focus ((repeat' first | exact Pick.here | apply Pick.skip | apply Pick.app); done); focus rfl) | (apply en_pick; focus ((repeat' first | exact Pick.here | apply Pick.skip | apply Pick.app); done)) | apply en_drop | apply en_app) <;> fail)), ?_⟩
  refine RS_e (RE_eff rfl rfl rfl (eff_call rfl (Z (some ⟨b9, 0, none⟩) 1 _ (hxs _ _) (Rc.blk rfl))) ?_); rintro _ _ ⟨A10, c10, rfl, hA10, rfl⟩; refine ⟨_, fun _ s => s, (by first | ((repeat first | exact fun _ s => s | apply en_keep | apply en_drop | apply en_app) <;> fail) | ((repeat first | exact en_refl | (apply en_blk; focus ((repeat' first | exact Pick.here | apply Pick.skip | apply Pick.app); done); focus rfl) | (apply en_own; focus ((repeat' first | exact Pick.here | apply Pick.skip | apply Pick.app); done); focus rfl) | (apply en_pick; focus ((repeat' first | exact Pick.here | apply Pick.skip | apply Pick.app); done)) | apply en_drop | apply en_app) <;> fail)), ?_⟩
  refine RS_m retB_noPanic rfl rfl rfl rfl (ev_assign rfl) ?_
  refine RS_nil ?_
  (repeat first | refine G_seq ?_ | refine G_skip ?_ | refine G_endblk ?_ | refine G_block ?_ | refine G_exit rfl ?_)
  refine G_region ?_
  refine GO_q rfl rfl (ev_move rfl) ?_
  refine GO_eff rfl rfl (eff_call rfl (Ctr.pick (by repeat' first | exact Pick.here | apply Pick.skip | apply Pick.app) (sort_ctr A10 _ c10 (x.seen w) _ hA10 rfl (by omega)))) ?_; rintro _ _ ⟨rfl, rfl⟩
  refine GO_nil ?_
  (repeat first | refine G_seq ?_ | refine G_skip ?_ | refine G_endblk ?_ | refine G_block ?_ | refine G_exit rfl ?_)
  refine G_region ?_
  refine GO_q rfl rfl (ev_move rfl) ?_
  refine GO_q rfl rfl (ev_assign rfl) ?_
  refine GO_nil ?_
  (repeat first | refine G_seq ?_ | refine G_skip ?_ | refine G_endblk ?_ | refine G_block ?_ | refine G_exit rfl ?_)
  exact G_ret (L' := own 3 1 A10 (srt (x.seen w)).length c10 (flat (srt (x.seen w))) :: L) rfl (.tmp rfl .nil) (by rw [hsl]; exact (by (repeat first | exact en_refl | (apply en_blk; focus ((repeat' first | exact Pick.here | apply Pick.skip | apply Pick.app); done); focus rfl) | (apply en_own; focus ((repeat' first | exact Pick.here | apply Pick.skip | apply Pick.app); done); focus rfl) | (apply en_pick; focus ((repeat' first | exact Pick.here | apply Pick.skip | apply Pick.app); done)) | apply en_drop | apply en_app) <;> fail)) ⟨A10, c10, by rw [hsl]; rfl, by rw [hsl]; exact hA10, rfl⟩
theorem Report_ctr (b : Nat) (x : PA) (most : Int) (w : Wn) (L : List HP) (h : LdN L b 0 2 (treeC x most)) (hx : PIn L x) (hs : x.t.size ≤ 100000) :
    Ctr Try.prog 21 #[.pointer (some ⟨b, 0, none⟩), .agg #[.int .i64 w.x1, .int .i64 w.x2, .int .i64 w.y]] L fun v L' => Made 3 (srt (x.seen w)) L v L' := by
  refine Ctr_of (fn := Try.f21) (n := 8) Try.func21 rfl rfl rfl ?_
  intro g F
  (repeat first | refine G_seq ?_ | refine G_skip ?_ | refine G_endblk ?_ | refine G_block ?_ | refine G_exit rfl ?_)
  refine G_region ?_
  refine GO_eff rfl rfl (eff_box rfl) ?_; rintro _ _ ⟨b3, rfl, rfl⟩
  refine GO_q rfl rfl (ev_assign rfl) ?_
  refine GO_nil ?_
  (repeat first | refine G_seq ?_ | refine G_skip ?_ | refine G_endblk ?_ | refine G_block ?_ | refine G_exit rfl ?_)
  refine G_region ?_
  refine GO_q rfl rfl (ev_move rfl) ?_
  refine GO_q rfl rfl (ev_loadN rfl (by repeat' first | exact LdN.blk rfl | assumption | apply LdN.skip | apply LdN.app)) ?_
  refine GO_eff rfl rfl (eff_call rfl (report_ctr b x most w _ h.skip.skip hx.skip.skip hs)) ?_; rintro _ _ ⟨A7, c7, rfl, hA7, rfl⟩
  refine GO_q rfl rfl (ev_assign rfl) ?_
  refine GO_nil ?_
  (repeat first | refine G_seq ?_ | refine G_skip ?_ | refine G_endblk ?_ | refine G_block ?_ | refine G_exit rfl ?_)
  exact G_ret (L' := own 3 1 A7 (srt (x.seen w)).length c7 (flat (srt (x.seen w))) :: L) rfl (.tmp rfl .nil) (by (repeat first | exact en_refl | (apply en_blk; focus ((repeat' first | exact Pick.here | apply Pick.skip | apply Pick.app); done); focus rfl) | (apply en_own; focus ((repeat' first | exact Pick.here | apply Pick.skip | apply Pick.app); done); focus rfl) | (apply en_pick; focus ((repeat' first | exact Pick.here | apply Pick.skip | apply Pick.app); done)) | apply en_drop | apply en_app) <;> fail) ⟨A7, c7, rfl, hA7, rfl⟩
theorem Count_ctr (b : Nat) (x : PA) (most : Int) (w : Wn) (L : List HP) (h : LdN L b 0 2 (treeC x most)) (hx : PIn L x) (hs : x.t.size ≤ 100000) :
    Ctr Try.prog 27 #[.pointer (some ⟨b, 0, none⟩), .agg #[.int .i64 w.x1, .int .i64 w.x2, .int .i64 w.y]] L fun v L' => v = .int .i64 ((x.seen w).length : Nat) ∧ L' = L := by
  have hsl : (srt (x.seen w)).length = (x.seen w).length := by rw [srt, List.length_mergeSort]
  refine Ctr_of (fn := Try.f27) (n := 9) Try.func27 rfl rfl rfl ?_
  intro g F
  (repeat first | refine G_seq ?_ | refine G_skip ?_ | refine G_endblk ?_ | refine G_block ?_ | refine G_exit rfl ?_)
  refine G_region ?_
  refine GO_eff rfl rfl (eff_box rfl) ?_; rintro _ _ ⟨b3, rfl, rfl⟩
  refine GO_q rfl rfl (ev_assign rfl) ?_
  refine GO_nil ?_
  (repeat first | refine G_seq ?_ | refine G_skip ?_ | refine G_endblk ?_ | refine G_block ?_ | refine G_exit rfl ?_)
  refine G_region ?_
  refine GO_q rfl rfl (ev_move rfl) ?_
  refine GO_q rfl rfl (ev_loadN rfl (by repeat' first | exact LdN.blk rfl | assumption | apply LdN.skip | apply LdN.app)) ?_
  refine GO_eff rfl rfl (eff_call rfl (report_ctr b x most w _ h.skip.skip hx.skip.skip hs)) ?_; rintro _ _ ⟨A7, c7, rfl, hA7, rfl⟩
  refine GO_q rfl rfl (ev_len rfl) ?_
  refine GO_q rfl rfl (ev_assign rfl) ?_
  refine GO_nil ?_
  (repeat first | refine G_seq ?_ | refine G_skip ?_ | refine G_endblk ?_ | refine G_block ?_ | refine G_exit rfl ?_)
  exact G_ret (L' := L) rfl (.tmp rfl .nil) (by (repeat first | exact en_refl | (apply en_blk; focus ((repeat' first | exact Pick.here | apply Pick.skip | apply Pick.app); done); focus rfl) | (apply en_own; focus ((repeat' first | exact Pick.here | apply Pick.skip | apply Pick.app); done); focus rfl) | (apply en_pick; focus ((repeat' first | exact Pick.here | apply Pick.skip | apply Pick.app); done)) | apply en_drop | apply en_app) <;> fail) ⟨by rw [← hsl]; rfl, rfl⟩
end Go.Proofs.Ytalcanejhniepaa
/- Trees that are heaps by Y: has, Insert, Delete. -/
namespace Go.Proofs.Ytalcanejhniepaa
attribute [local irreducible] sat
set_option linter.unusedVariables false
set_option linter.unusedSimpArgs false
set_option maxRecDepth 100000

theorem pt_list (p q : Pt) : [p.id, p.x, p.y] = [q.id, q.x, q.y] ↔ p = q := by
  rw [Pt.ext_iff']; simp
theorem els_und {p s : Pt} {lo hi : PT} (h : (PT.node p s lo hi).Ok) {q : Pt} (hq : q ∈ (PT.node p s lo hi).els) : q = p ∨ und q p = true := by
  rcases List.mem_cons.1 hq with h1 | h1
  · exact .inl h1
  · exact .inr (h.2.2.2.2 q h1)
theorem els_side {p s : Pt} {lo hi : PT} (h : (PT.node p s lo hi).Ok) {q : Pt} (hq : q ≠ p) : q ∈ (PT.node p s lo hi).els ↔ q ∈ (if beh q s then hi else lo).els := by
  have e : q ∈ (PT.node p s lo hi).els ↔ q ∈ lo.els ∨ q ∈ hi.els := by simp [PT.els, hq]
  rw [e]
  cases hb : beh q s with
  | true =>
    simp only [if_true]
    constructor
    · intro h1
      rcases h1 with h2 | h2
      · have := h.2.2.1 q h2; rw [hb] at this; cases this
      · exact h2
    · exact Or.inr
  | false =>
    rw [if_neg (by simp)]
    constructor
    · intro h1
      rcases h1 with h2 | h2
      · exact h2
      · have := h.2.2.2.1 q h2; rw [hb] at this; cases this
    · exact Or.inl
theorem has_ctr (b : Nat) (x : PA) (most : Int) (p : Pt) (L : List HP) (h : LdN L b 0 2 (treeC x most)) (hx : PIn L x) (hok : x.t.Ok) :
    Ctr Try.prog 49 #[.pointer (some ⟨b, 0, none⟩), p.v] L fun v L' => v = .bool (decide (p ∈ x.t.els)) ∧ L' = L := by
  have h1 : Ld L ⟨b, 0 + 0, none⟩ (.pointer x.addr) := h.at_ (i := 0) rfl
  refine Ctr_of (fn := Try.f49) (n := 46) Try.func49 rfl rfl rfl ?_
  intro g F
  (repeat first | refine G_seq ?_ | refine G_skip ?_ | refine G_endblk ?_ | refine G_block ?_ | refine G_exit rfl ?_)
  refine G_region ?_
  refine GO_eff rfl rfl (eff_box rfl) ?_; rintro _ _ ⟨b3, rfl, rfl⟩
  refine GO_q rfl rfl (ev_assign rfl) ?_
  refine GO_nil ?_
  (repeat first | refine G_seq ?_ | refine G_skip ?_ | refine G_endblk ?_ | refine G_block ?_ | refine G_exit rfl ?_)
  refine G_region ?_
  refine GO_q rfl rfl (ev_move rfl) ?_
  (first | refine GO_q rfl rfl (ev_eqlNil rfl rfl) ?_ | refine GO_q rfl rfl (ev_eqlPtr rfl rfl) ?_)
  refine GO_nil ?_
  (repeat first | refine G_seq ?_ | refine G_skip ?_ | refine G_endblk ?_ | refine G_block ?_ | refine G_exit rfl ?_)
  refine G_cond_f rfl rfl ?_
  (repeat first | refine G_seq ?_ | refine G_skip ?_ | refine G_endblk ?_ | refine G_block ?_ | refine G_exit rfl ?_)
  refine G_region ?_
  refine GO_q rfl rfl (ev_move rfl) ?_
  (first | refine GO_q rfl rfl (ev_nilCheck rfl) ?_ | refine GO_q rfl rfl (ev_nilCheckF (by simp) rfl) ?_)
  refine GO_q rfl rfl (ev_fieldAddr rfl) ?_
  refine GO_q rfl rfl (ev_load rfl (by repeat' first | exact Ld.blk rfl | assumption | apply Ld.skip | apply Ld.app)) ?_
  refine GO_q rfl rfl (ev_assign rfl) ?_
  refine GO_nil ?_
  (repeat first | refine G_seq ?_ | refine G_skip ?_ | refine G_endblk ?_)
  refine G_cut (ι := PA) (fun y => [(3, .pointer (some ⟨b3, 0, none⟩)), (5, .pointer y.addr)]) (fun y => blk b3 39 [.int .i64 p.id, .int .i64 p.x, .int .i64 p.y] :: F :: L) (fun y => PIn L y ∧ match y with | .nil => p ∉ x.t.els | .node _ q _ _ _ => (p ∈ x.t.els ↔ q = p)) ?_ ?_
  · (repeat first | refine G_seq ?_ | refine G_skip ?_ | refine G_endblk ?_ | refine G_block ?_ | refine G_exit rfl ?_)
    refine G_loop (ι := PA) (fun y => [(3, .pointer (some ⟨b3, 0, none⟩)), (5, .pointer y.addr)]) (fun y => blk b3 39 [.int .i64 p.id, .int .i64 p.x, .int .i64 p.y] :: F :: L) (fun y => PIn L y ∧ y.t.Ok ∧ (p ∈ x.t.els ↔ p ∈ y.t.els)) (fun y => y.t.size) x ⟨hx, hok, Iff.rfl⟩ ⟨rfl, rfl, trivial⟩ (by (repeat first | exact fun _ s => s | apply en_keep | apply en_drop | apply en_app) <;> fail) ?_
    rintro y ⟨f1, f2, f3⟩
    cases y with
    | nil =>
      (repeat first | refine G_seq ?_ | refine G_skip ?_ | refine G_endblk ?_ | refine G_block ?_ | refine G_exit rfl ?_)
      refine G_draw (.q 0 (.q 1 (.q 2 (.q 3 (.q 4 (.q 5 (.q 6 (.q 7 (.q 8 (.q 9 (.q 10 (.q 11 (.q 12 (.q 13 (.q 14 (.q 15 (.e 16 (.q 17 (.q 18 .nil))))))))))))))))))) (by kernel_rfl) (by kernel_rfl) ?_
      refine RS_m retB_noPanic rfl rfl rfl rfl (ev_move rfl) ?_
      (first | refine RS_m retB_noPanic rfl rfl rfl rfl (ev_neqNil rfl rfl) ?_ | refine RS_m retB_noPanic rfl rfl rfl rfl (ev_neqPtr rfl rfl) ?_)
      refine RS_m retB_noPanic rfl rfl rfl rfl (ev_move rfl) ?_
      refine RS_q_no retB_noPanic rfl rfl rfl ⟨_, rfl, rfl⟩ rfl ?_
      refine RS_q_no retB_noPanic rfl rfl rfl ⟨_, rfl, rfl⟩ rfl ?_
      refine RS_q_no retB_noPanic rfl rfl rfl ⟨_, rfl, rfl⟩ rfl ?_
      refine RS_q_no retB_noPanic rfl rfl rfl ⟨_, rfl, rfl⟩ rfl ?_
      refine RS_q_no retB_noPanic rfl rfl rfl ⟨_, rfl, rfl⟩ rfl ?_
      refine RS_q_no retB_noPanic rfl rfl rfl ⟨_, rfl, rfl⟩ rfl ?_
      refine RS_m retB_noPanic rfl rfl rfl rfl (ev_pick_f rfl rfl rfl) ?_
      refine RS_m retB_noPanic rfl rfl rfl rfl (ev_move rfl) ?_
      refine RS_q_no retB_noPanic rfl rfl rfl ⟨_, rfl, rfl⟩ rfl ?_
      refine RS_q_no retB_noPanic rfl rfl rfl ⟨_, rfl, rfl⟩ rfl ?_
      refine RS_q_no retB_noPanic rfl rfl rfl ⟨_, rfl, rfl⟩ rfl ?_
      refine RS_q_no retB_noPanic rfl rfl rfl ⟨_, rfl, rfl⟩ rfl ?_
      refine RS_q_no retB_noPanic rfl rfl rfl ⟨_, rfl, rfl⟩ rfl ?_
      refine RS_e (RE_no rfl rfl rfl ⟨_, rfl, rfl⟩ rfl ?_)
      refine RS_q_no retB_noPanic rfl rfl rfl ⟨_, rfl, rfl⟩ rfl ?_
      refine RS_m retB_noPanic rfl rfl rfl rfl (ev_pick_f rfl rfl rfl) ?_
      refine RS_nil ?_
      (repeat first | refine G_seq ?_ | refine G_skip ?_ | refine G_endblk ?_ | refine G_block ?_ | refine G_exit rfl ?_)
      refine G_cond_f rfl rfl ?_
      (repeat first | refine G_seq ?_ | refine G_skip ?_ | refine G_endblk ?_ | refine G_block ?_ | refine G_exit rfl ?_)
      exact G_inv PA.nil ⟨trivial, fun hp => by have := f3.1 hp; cases this⟩ ⟨rfl, rfl, trivial⟩ (by (repeat first | exact fun _ s => s | apply en_keep | apply en_drop | apply en_app) <;> fail)
    | node c q s lo hi =>
      obtain ⟨q1, q2, q3, q4, q5, q6, q7, q8, q9⟩ := f1.f
      by_cases hqp : q = p
      · have hl : [q.id, q.x, q.y] = [p.id, p.x, p.y] := (pt_list q p).2 hqp
        (repeat first | refine G_seq ?_ | refine G_skip ?_ | refine G_endblk ?_ | refine G_block ?_ | refine G_exit rfl ?_)
        refine G_draw (.q 0 (.q 1 (.q 2 (.q 3 (.q 4 (.q 5 (.q 6 (.q 7 (.q 8 (.q 9 (.q 10 (.q 11 (.q 12 (.q 13 (.q 14 (.q 15 (.e 16 (.q 17 (.q 18 .nil))))))))))))))))))) (by kernel_rfl) (by kernel_rfl) ?_
        refine RS_m retB_noPanic rfl rfl rfl rfl (ev_move rfl) ?_
        (first | refine RS_m retB_noPanic rfl rfl rfl rfl (ev_neqNil rfl rfl) ?_ | refine RS_m retB_noPanic rfl rfl rfl rfl (ev_neqPtr rfl rfl) ?_)
        refine RS_m retB_noPanic rfl rfl rfl rfl (ev_move rfl) ?_
        refine RS_m_yes retB_noPanic rfl rfl rfl rfl ⟨_, rfl, rfl⟩ rfl (ev_move rfl) ?_
        (first | refine RS_m_yes retB_noPanic rfl rfl rfl rfl ⟨_, rfl, rfl⟩ rfl (ev_nilCheck rfl) ?_ | refine RS_m_yes retB_noPanic rfl rfl rfl rfl ⟨_, rfl, rfl⟩ rfl (ev_nilCheckF (by simp) rfl) ?_)
        refine RS_m_yes retB_noPanic rfl rfl rfl rfl ⟨_, rfl, rfl⟩ rfl (ev_fieldAddr rfl) ?_
        refine RS_q_yes retB_noPanic rfl rfl rfl rfl ⟨_, rfl, rfl⟩ rfl (ev_loadN rfl (by repeat' first | exact LdN.blk rfl | assumption | apply LdN.skip | apply LdN.app)) ?_
        refine RS_q_yes retB_noPanic rfl rfl rfl rfl ⟨_, rfl, rfl⟩ rfl (ev_loadN rfl (by repeat' first | exact LdN.blk rfl | assumption | apply LdN.skip | apply LdN.app)) ?_
        refine RS_m_yes retB_noPanic rfl rfl rfl rfl ⟨_, rfl, rfl⟩ rfl (ev_neqS rfl rfl rfl rfl rfl rfl) ?_
        refine RS_m retB_noPanic rfl rfl rfl rfl (ev_pick_t rfl rfl rfl) ?_
        refine RS_m retB_noPanic rfl rfl rfl rfl (ev_move rfl) ?_
        refine RS_q_no retB_noPanic rfl rfl rfl ⟨_, rfl, (decide_eq_false (fun h => h hl))⟩ rfl ?_
        refine RS_q_no retB_noPanic rfl rfl rfl ⟨_, rfl, (decide_eq_false (fun h => h hl))⟩ rfl ?_
        refine RS_q_no retB_noPanic rfl rfl rfl ⟨_, rfl, (decide_eq_false (fun h => h hl))⟩ rfl ?_
        refine RS_q_no retB_noPanic rfl rfl rfl ⟨_, rfl, (decide_eq_false (fun h => h hl))⟩ rfl ?_
        refine RS_q_no retB_noPanic rfl rfl rfl ⟨_, rfl, (decide_eq_false (fun h => h hl))⟩ rfl ?_
        refine RS_e (RE_no rfl rfl rfl ⟨_, rfl, (decide_eq_false (fun h => h hl))⟩ rfl ?_)
        refine RS_q_no retB_noPanic rfl rfl rfl ⟨_, rfl, (decide_eq_false (fun h => h hl))⟩ rfl ?_
        refine RS_m retB_noPanic rfl rfl rfl rfl (ev_pick_f rfl (decide_eq_false (fun h => h hl)) rfl) ?_
        refine RS_nil ?_
        (repeat first | refine G_seq ?_ | refine G_skip ?_ | refine G_endblk ?_ | refine G_block ?_ | refine G_exit rfl ?_)
        refine G_cond_f rfl rfl ?_
        (repeat first | refine G_seq ?_ | refine G_skip ?_ | refine G_endblk ?_ | refine G_block ?_ | refine G_exit rfl ?_)
        exact G_inv (PA.node c q s lo hi) ⟨f1, by rw [f3]; simp [hqp, PA.t, PT.els]⟩ ⟨rfl, rfl, trivial⟩ (by (repeat first | exact fun _ s => s | apply en_keep | apply en_drop | apply en_app) <;> fail)
      · have hl : ¬ [q.id, q.x, q.y] = [p.id, p.x, p.y] := fun h => hqp ((pt_list q p).1 h)
        cases hu : und q p with
        | true =>
          (repeat first | refine G_seq ?_ | refine G_skip ?_ | refine G_endblk ?_ | refine G_block ?_ | refine G_exit rfl ?_)
          refine G_draw (.q 0 (.q 1 (.q 2 (.q 3 (.q 4 (.q 5 (.q 6 (.q 7 (.q 8 (.q 9 (.q 10 (.q 11 (.q 12 (.q 13 (.q 14 (.q 15 (.e 16 (.q 17 (.q 18 .nil))))))))))))))))))) (by kernel_rfl) (by kernel_rfl) ?_
          refine RS_m retB_noPanic rfl rfl rfl rfl (ev_move rfl) ?_
          (first | refine RS_m retB_noPanic rfl rfl rfl rfl (ev_neqNil rfl rfl) ?_ | refine RS_m retB_noPanic rfl rfl rfl rfl (ev_neqPtr rfl rfl) ?_)
          refine RS_m retB_noPanic rfl rfl rfl rfl (ev_move rfl) ?_
          refine RS_m_yes retB_noPanic rfl rfl rfl rfl ⟨_, rfl, rfl⟩ rfl (ev_move rfl) ?_
          (first | refine RS_m_yes retB_noPanic rfl rfl rfl rfl ⟨_, rfl, rfl⟩ rfl (ev_nilCheck rfl) ?_ | refine RS_m_yes retB_noPanic rfl rfl rfl rfl ⟨_, rfl, rfl⟩ rfl (ev_nilCheckF (by simp) rfl) ?_)
          refine RS_m_yes retB_noPanic rfl rfl rfl rfl ⟨_, rfl, rfl⟩ rfl (ev_fieldAddr rfl) ?_
          refine RS_q_yes retB_noPanic rfl rfl rfl rfl ⟨_, rfl, rfl⟩ rfl (ev_loadN rfl (by repeat' first | exact LdN.blk rfl | assumption | apply LdN.skip | apply LdN.app)) ?_
          refine RS_q_yes retB_noPanic rfl rfl rfl rfl ⟨_, rfl, rfl⟩ rfl (ev_loadN rfl (by repeat' first | exact LdN.blk rfl | assumption | apply LdN.skip | apply LdN.app)) ?_
          refine RS_m_yes retB_noPanic rfl rfl rfl rfl ⟨_, rfl, rfl⟩ rfl (ev_neqS rfl rfl rfl rfl rfl rfl) ?_
          refine RS_m retB_noPanic rfl rfl rfl rfl (ev_pick_t rfl rfl rfl) ?_
          refine RS_m retB_noPanic rfl rfl rfl rfl (ev_move rfl) ?_
          refine RS_m_yes retB_noPanic rfl rfl rfl rfl ⟨_, rfl, (decide_eq_true hl)⟩ rfl (ev_move rfl) ?_
          (first | refine RS_m_yes retB_noPanic rfl rfl rfl rfl ⟨_, rfl, (decide_eq_true hl)⟩ rfl (ev_nilCheck rfl) ?_ | refine RS_m_yes retB_noPanic rfl rfl rfl rfl ⟨_, rfl, (decide_eq_true hl)⟩ rfl (ev_nilCheckF (by simp) rfl) ?_)
          refine RS_m_yes retB_noPanic rfl rfl rfl rfl ⟨_, rfl, (decide_eq_true hl)⟩ rfl (ev_fieldAddr rfl) ?_
          refine RS_q_yes retB_noPanic rfl rfl rfl rfl ⟨_, rfl, (decide_eq_true hl)⟩ rfl (ev_loadN rfl (by repeat' first | exact LdN.blk rfl | assumption | apply LdN.skip | apply LdN.app)) ?_
          refine RS_q_yes retB_noPanic rfl rfl rfl rfl ⟨_, rfl, (decide_eq_true hl)⟩ rfl (ev_loadN rfl (by repeat' first | exact LdN.blk rfl | assumption | apply LdN.skip | apply LdN.app)) ?_
          refine RS_e (RE_eff_yes rfl rfl rfl ⟨_, rfl, (decide_eq_true hl)⟩ rfl (eff_call rfl (under_ctr q p _)) ?_); rintro _ _ ⟨rfl, rfl⟩; refine ⟨_, fun _ s => s, (by first | ((repeat first | exact fun _ s => s | apply en_keep | apply en_drop | apply en_app) <;> fail) | ((repeat first | exact en_refl | (apply en_blk; focus ((repeat' first | exact Pick.here | apply Pick.skip | apply Pick.app); done); focus rfl) | (apply en_own; focus ((repeat' first | exact Pick.here | apply Pick.skip | apply Pick.app); done); focus rfl) | (apply en_pick; focus ((repeat' first | exact Pick.here | apply Pick.skip | apply Pick.app); done)) | apply en_drop | apply en_app) <;> fail)), ?_⟩
          refine RS_m_yes retB_noPanic rfl rfl rfl rfl ⟨_, rfl, (decide_eq_true hl)⟩ rfl (ev_not rfl) ?_
          refine RS_m retB_noPanic rfl rfl rfl rfl (ev_pick_t rfl (decide_eq_true hl) rfl) ?_
          refine RS_nil ?_
          (repeat first | refine G_seq ?_ | refine G_skip ?_ | refine G_endblk ?_ | refine G_block ?_ | refine G_exit rfl ?_)
          refine G_cond_f rfl (by rw [hu]; rfl) ?_
          (repeat first | refine G_seq ?_ | refine G_skip ?_ | refine G_endblk ?_ | refine G_block ?_ | refine G_exit rfl ?_)
          refine G_inv (PA.node c q s lo hi) ⟨f1, ?_⟩ ⟨rfl, rfl, trivial⟩ (by (repeat first | exact fun _ s => s | apply en_keep | apply en_drop | apply en_app) <;> fail)
          rw [f3]
          refine ⟨fun hm => ?_, fun e => absurd e hqp⟩
          rcases els_und f2 hm with h9 | h9
          · exact h9.symm
          · rw [und_asymm hu] at h9; cases h9
        | false =>
          (repeat first | refine G_seq ?_ | refine G_skip ?_ | refine G_endblk ?_ | refine G_block ?_ | refine G_exit rfl ?_)
          refine G_draw (.q 0 (.q 1 (.q 2 (.q 3 (.q 4 (.q 5 (.q 6 (.q 7 (.q 8 (.q 9 (.q 10 (.q 11 (.q 12 (.q 13 (.q 14 (.q 15 (.e 16 (.q 17 (.q 18 .nil))))))))))))))))))) (by kernel_rfl) (by kernel_rfl) ?_
          refine RS_m retB_noPanic rfl rfl rfl rfl (ev_move rfl) ?_
          (first | refine RS_m retB_noPanic rfl rfl rfl rfl (ev_neqNil rfl rfl) ?_ | refine RS_m retB_noPanic rfl rfl rfl rfl (ev_neqPtr rfl rfl) ?_)
          refine RS_m retB_noPanic rfl rfl rfl rfl (ev_move rfl) ?_
          refine RS_m_yes retB_noPanic rfl rfl rfl rfl ⟨_, rfl, rfl⟩ rfl (ev_move rfl) ?_
          (first | refine RS_m_yes retB_noPanic rfl rfl rfl rfl ⟨_, rfl, rfl⟩ rfl (ev_nilCheck rfl) ?_ | refine RS_m_yes retB_noPanic rfl rfl rfl rfl ⟨_, rfl, rfl⟩ rfl (ev_nilCheckF (by simp) rfl) ?_)
          refine RS_m_yes retB_noPanic rfl rfl rfl rfl ⟨_, rfl, rfl⟩ rfl (ev_fieldAddr rfl) ?_
          refine RS_q_yes retB_noPanic rfl rfl rfl rfl ⟨_, rfl, rfl⟩ rfl (ev_loadN rfl (by repeat' first | exact LdN.blk rfl | assumption | apply LdN.skip | apply LdN.app)) ?_
          refine RS_q_yes retB_noPanic rfl rfl rfl rfl ⟨_, rfl, rfl⟩ rfl (ev_loadN rfl (by repeat' first | exact LdN.blk rfl | assumption | apply LdN.skip | apply LdN.app)) ?_
          refine RS_m_yes retB_noPanic rfl rfl rfl rfl ⟨_, rfl, rfl⟩ rfl (ev_neqS rfl rfl rfl rfl rfl rfl) ?_
          refine RS_m retB_noPanic rfl rfl rfl rfl (ev_pick_t rfl rfl rfl) ?_
          refine RS_m retB_noPanic rfl rfl rfl rfl (ev_move rfl) ?_
          refine RS_m_yes retB_noPanic rfl rfl rfl rfl ⟨_, rfl, (decide_eq_true hl)⟩ rfl (ev_move rfl) ?_
          (first | refine RS_m_yes retB_noPanic rfl rfl rfl rfl ⟨_, rfl, (decide_eq_true hl)⟩ rfl (ev_nilCheck rfl) ?_ | refine RS_m_yes retB_noPanic rfl rfl rfl rfl ⟨_, rfl, (decide_eq_true hl)⟩ rfl (ev_nilCheckF (by simp) rfl) ?_)
          refine RS_m_yes retB_noPanic rfl rfl rfl rfl ⟨_, rfl, (decide_eq_true hl)⟩ rfl (ev_fieldAddr rfl) ?_
          refine RS_q_yes retB_noPanic rfl rfl rfl rfl ⟨_, rfl, (decide_eq_true hl)⟩ rfl (ev_loadN rfl (by repeat' first | exact LdN.blk rfl | assumption | apply LdN.skip | apply LdN.app)) ?_
          refine RS_q_yes retB_noPanic rfl rfl rfl rfl ⟨_, rfl, (decide_eq_true hl)⟩ rfl (ev_loadN rfl (by repeat' first | exact LdN.blk rfl | assumption | apply LdN.skip | apply LdN.app)) ?_
          refine RS_e (RE_eff_yes rfl rfl rfl ⟨_, rfl, (decide_eq_true hl)⟩ rfl (eff_call rfl (under_ctr q p _)) ?_); rintro _ _ ⟨rfl, rfl⟩; refine ⟨_, fun _ s => s, (by first | ((repeat first | exact fun _ s => s | apply en_keep | apply en_drop | apply en_app) <;> fail) | ((repeat first | exact en_refl | (apply en_blk; focus ((repeat' first | exact Pick.here | apply Pick.skip | apply Pick.app); done); focus rfl) | (apply en_own; focus ((repeat' first | exact Pick.here | apply Pick.skip | apply Pick.app); done); focus rfl) | (apply en_pick; focus ((repeat' first | exact Pick.here | apply Pick.skip | apply Pick.app); done)) | apply en_drop | apply en_app) <;> fail)), ?_⟩
          refine RS_m_yes retB_noPanic rfl rfl rfl rfl ⟨_, rfl, (decide_eq_true hl)⟩ rfl (ev_not rfl) ?_
          refine RS_m retB_noPanic rfl rfl rfl rfl (ev_pick_t rfl (decide_eq_true hl) rfl) ?_
          refine RS_nil ?_
          (repeat first | refine G_seq ?_ | refine G_skip ?_ | refine G_endblk ?_ | refine G_block ?_ | refine G_exit rfl ?_)
          refine G_cond_t rfl (by rw [hu]; rfl) ?_
          have hs := els_side f2 (Ne.symm hqp)
          cases hb : beh p s with
          | true =>
            rw [hb] at hs
            (repeat first | refine G_seq ?_ | refine G_skip ?_ | refine G_endblk ?_ | refine G_block ?_ | refine G_exit rfl ?_)
            refine G_region ?_
            refine GO_q rfl rfl (ev_move rfl) ?_
            refine GO_q rfl rfl (ev_loadN rfl (by repeat' first | exact LdN.blk rfl | assumption | apply LdN.skip | apply LdN.app)) ?_
            refine GO_eff rfl rfl (eff_call rfl ((by have := kid_ctr p s c (blk b3 39 [.int .i64 p.id, .int .i64 p.x, .int .i64 p.y] :: F :: L) q5.skip.skip; rw [hb] at this; exact this))) ?_; rintro _ _ ⟨rfl, rfl⟩
            (first | refine GO_q rfl rfl (ev_nilCheck rfl) ?_ | refine GO_q rfl rfl (ev_nilCheckF (by simp) rfl) ?_)
            refine GO_q rfl rfl (ev_load rfl (by repeat' first | exact Ld.blk rfl | assumption | apply Ld.skip | apply Ld.app)) ?_
            refine GO_q rfl rfl (ev_assign rfl) ?_
            refine GO_nil ?_
            (repeat first | refine G_seq ?_ | refine G_skip ?_ | refine G_endblk ?_ | refine G_block ?_ | refine G_exit rfl ?_)
            exact G_round hi ⟨f1.2.2, f2.2.1, f3.trans hs⟩ (by simp only [PA.t, PT.size]; omega) ⟨rfl, rfl, trivial⟩ (by (repeat first | exact fun _ s => s | apply en_keep | apply en_drop | apply en_app) <;> fail)
          | false =>
            rw [hb] at hs
            (repeat first | refine G_seq ?_ | refine G_skip ?_ | refine G_endblk ?_ | refine G_block ?_ | refine G_exit rfl ?_)
            refine G_region ?_
            refine GO_q rfl rfl (ev_move rfl) ?_
            refine GO_q rfl rfl (ev_loadN rfl (by repeat' first | exact LdN.blk rfl | assumption | apply LdN.skip | apply LdN.app)) ?_
            refine GO_eff rfl rfl (eff_call rfl ((by have := kid_ctr p s c (blk b3 39 [.int .i64 p.id, .int .i64 p.x, .int .i64 p.y] :: F :: L) q5.skip.skip; rw [hb] at this; exact this))) ?_; rintro _ _ ⟨rfl, rfl⟩
            (first | refine GO_q rfl rfl (ev_nilCheck rfl) ?_ | refine GO_q rfl rfl (ev_nilCheckF (by simp) rfl) ?_)
            refine GO_q rfl rfl (ev_load rfl (by repeat' first | exact Ld.blk rfl | assumption | apply Ld.skip | apply Ld.app)) ?_
            refine GO_q rfl rfl (ev_assign rfl) ?_
            refine GO_nil ?_
            (repeat first | refine G_seq ?_ | refine G_skip ?_ | refine G_endblk ?_ | refine G_block ?_ | refine G_exit rfl ?_)
            exact G_round lo ⟨f1.2.1, f2.1, f3.trans hs⟩ (by simp only [PA.t, PT.size]; omega) ⟨rfl, rfl, trivial⟩ (by (repeat first | exact fun _ s => s | apply en_keep | apply en_drop | apply en_app) <;> fail)
  · rintro y ⟨f1, f2⟩
    cases y with
    | nil =>
      (repeat first | refine G_seq ?_ | refine G_skip ?_ | refine G_endblk ?_ | refine G_block ?_ | refine G_exit rfl ?_)
      refine G_draw (.q 0 (.q 1 (.q 2 (.q 3 (.q 4 (.q 5 (.q 6 (.q 7 (.q 8 (.q 9 (.q 10 .nil))))))))))) (by kernel_rfl) (by kernel_rfl) ?_
      refine RS_m retB_noPanic rfl rfl rfl rfl (ev_move rfl) ?_
      (first | refine RS_m retB_noPanic rfl rfl rfl rfl (ev_neqNil rfl rfl) ?_ | refine RS_m retB_noPanic rfl rfl rfl rfl (ev_neqPtr rfl rfl) ?_)
      refine RS_m retB_noPanic rfl rfl rfl rfl (ev_move rfl) ?_
      refine RS_q_no retB_noPanic rfl rfl rfl ⟨_, rfl, rfl⟩ rfl ?_
      refine RS_q_no retB_noPanic rfl rfl rfl ⟨_, rfl, rfl⟩ rfl ?_
      refine RS_q_no retB_noPanic rfl rfl rfl ⟨_, rfl, rfl⟩ rfl ?_
      refine RS_q_no retB_noPanic rfl rfl rfl ⟨_, rfl, rfl⟩ rfl ?_
      refine RS_q_no retB_noPanic rfl rfl rfl ⟨_, rfl, rfl⟩ rfl ?_
      refine RS_q_no retB_noPanic rfl rfl rfl ⟨_, rfl, rfl⟩ rfl ?_
      refine RS_m retB_noPanic rfl rfl rfl rfl (ev_pick_f rfl rfl rfl) ?_
      refine RS_m retB_noPanic rfl rfl rfl rfl (ev_assign rfl) ?_
      refine RS_nil ?_
      (repeat first | refine G_seq ?_ | refine G_skip ?_ | refine G_endblk ?_ | refine G_block ?_ | refine G_exit rfl ?_)
      refine G_ret rfl (.tmp rfl .nil) (by (repeat first | exact fun _ s => s | apply en_keep | apply en_drop | apply en_app) <;> fail) ⟨congrArg Value.bool (decide_eq_false f2).symm, rfl⟩
    | node c q s lo hi =>
      obtain ⟨q1, q2, q3, q4, q5, q6, q7, q8, q9⟩ := f1.f
      (repeat first | refine G_seq ?_ | refine G_skip ?_ | refine G_endblk ?_ | refine G_block ?_ | refine G_exit rfl ?_)
      refine G_draw (.q 0 (.q 1 (.q 2 (.q 3 (.q 4 (.q 5 (.q 6 (.q 7 (.q 8 (.q 9 (.q 10 .nil))))))))))) (by kernel_rfl) (by kernel_rfl) ?_
      refine RS_m retB_noPanic rfl rfl rfl rfl (ev_move rfl) ?_
      (first | refine RS_m retB_noPanic rfl rfl rfl rfl (ev_neqNil rfl rfl) ?_ | refine RS_m retB_noPanic rfl rfl rfl rfl (ev_neqPtr rfl rfl) ?_)
      refine RS_m retB_noPanic rfl rfl rfl rfl (ev_move rfl) ?_
      refine RS_m_yes retB_noPanic rfl rfl rfl rfl ⟨_, rfl, rfl⟩ rfl (ev_move rfl) ?_
      (first | refine RS_m_yes retB_noPanic rfl rfl rfl rfl ⟨_, rfl, rfl⟩ rfl (ev_nilCheck rfl) ?_ | refine RS_m_yes retB_noPanic rfl rfl rfl rfl ⟨_, rfl, rfl⟩ rfl (ev_nilCheckF (by simp) rfl) ?_)
      refine RS_m_yes retB_noPanic rfl rfl rfl rfl ⟨_, rfl, rfl⟩ rfl (ev_fieldAddr rfl) ?_
      refine RS_q_yes retB_noPanic rfl rfl rfl rfl ⟨_, rfl, rfl⟩ rfl (ev_loadN rfl (by repeat' first | exact LdN.blk rfl | assumption | apply LdN.skip | apply LdN.app)) ?_
      refine RS_q_yes retB_noPanic rfl rfl rfl rfl ⟨_, rfl, rfl⟩ rfl (ev_loadN rfl (by repeat' first | exact LdN.blk rfl | assumption | apply LdN.skip | apply LdN.app)) ?_
      refine RS_m_yes retB_noPanic rfl rfl rfl rfl ⟨_, rfl, rfl⟩ rfl (ev_eqlS rfl rfl rfl rfl rfl rfl) ?_
      refine RS_m retB_noPanic rfl rfl rfl rfl (ev_pick_t rfl rfl rfl) ?_
      refine RS_m retB_noPanic rfl rfl rfl rfl (ev_assign rfl) ?_
      refine RS_nil ?_
      (repeat first | refine G_seq ?_ | refine G_skip ?_ | refine G_endblk ?_ | refine G_block ?_ | refine G_exit rfl ?_)
      refine G_ret rfl (.tmp rfl .nil) (by (repeat first | exact fun _ s => s | apply en_keep | apply en_drop | apply en_app) <;> fail) ⟨congrArg Value.bool (decide_eq_decide.2 ((pt_list q p).trans f2.symm)), rfl⟩
theorem Has_ctr' (b : Nat) (x : PA) (most : Int) (p : Pt) (L : List HP) (h : LdN L b 0 2 (treeC x most)) (hx : PIn L x) (hok : x.t.Ok) :
    Ctr Try.prog 31 #[.pointer (some ⟨b, 0, none⟩), p.v] L fun v L' => v = .bool (decide (p ∈ x.t.els)) ∧ L' = L := by
  refine Ctr_of (fn := Try.f31) (n := 8) Try.func31 rfl rfl rfl ?_
  intro g F
  (repeat first | refine G_seq ?_ | refine G_skip ?_ | refine G_endblk ?_ | refine G_block ?_ | refine G_exit rfl ?_)
  refine G_region ?_
  refine GO_eff rfl rfl (eff_box rfl) ?_; rintro _ _ ⟨b3, rfl, rfl⟩
  refine GO_q rfl rfl (ev_assign rfl) ?_
  refine GO_nil ?_
  (repeat first | refine G_seq ?_ | refine G_skip ?_ | refine G_endblk ?_ | refine G_block ?_ | refine G_exit rfl ?_)
  refine G_region ?_
  refine GO_q rfl rfl (ev_move rfl) ?_
  refine GO_q rfl rfl (ev_loadN rfl (by repeat' first | exact LdN.blk rfl | assumption | apply LdN.skip | apply LdN.app)) ?_
  refine GO_eff rfl rfl (eff_call rfl (has_ctr b x most p _ h.skip.skip hx.skip.skip hok)) ?_; rintro _ _ ⟨rfl, rfl⟩
  refine GO_q rfl rfl (ev_assign rfl) ?_
  refine GO_nil ?_
  (repeat first | refine G_seq ?_ | refine G_skip ?_ | refine G_endblk ?_ | refine G_block ?_ | refine G_exit rfl ?_)
  refine G_ret rfl (.tmp rfl .nil) (by (repeat first | exact fun _ s => s | apply en_keep | apply en_drop | apply en_app) <;> fail) ⟨rfl, rfl⟩
end Go.Proofs.Ytalcanejhniepaa
/- Trees that are heaps by Y, as sets of points. -/
namespace Go.Proofs.Ytalcanejhniepaa
set_option linter.unusedVariables false
set_option linter.unusedSimpArgs false

/-- A tree at a place, with just these points. -/
def treeS (b : Nat) (most : Int) (l : List Pt) : HP := fun h => ∃ x : PA, x.t.Of l ∧ sat [blk b 91 (treeC x most), paH x] h
/-- A function that reads alone, by whatever stands for a part. -/
theorem Ctr.read {P : Program} {f : FuncId} {args : Array Value} {L : List HP} {A : HP} {ι : Type} {φ : ι → Prop} {N : ι → List HP} {R : Value → List HP → Prop} (op : ∀ h, A h → ∃ i, φ i ∧ sat (N i) h) (cl : ∀ i, φ i → ∀ h, sat (N i) h → A h)
    (C : ∀ i, φ i → Ctr P f args (N i ++ L) fun v L' => ∃ X, R v X ∧ L' = X ++ (N i ++ L)) : Ctr P f args (A :: L) fun v L' => ∃ X, R v X ∧ L' = X ++ (A :: L) := fun g F w hw => by
  obtain ⟨h1, h2, d, s1, s2, q, l⟩ := hw.s.swap
  obtain ⟨i, hi, hn⟩ := op _ q
  have hs : sat (N i ++ (F :: L)) w.hm := sat.head (A := fun h => h = h1) (fun _ e => e ▸ hn) ⟨h1, h2, d, s1, s2, rfl, l⟩
  have hs2 : sat (F :: (N i ++ L)) w.hm := hs.perm List.perm_middle
  refine (C i hi g F w ⟨hw.g, hs2⟩).mono fun e w' ⟨v, L', e1, ⟨X, r, e2⟩, hw'⟩ => ?_
  subst e2
  exact ⟨v, _, e1, ⟨X, r, rfl⟩, hw'.mono (en_keep (en_appk fun _ s => sat.fold (cl i hi) s))⟩
theorem treeS_open {b : Nat} {most : Int} {l : List Pt} : ∀ h, treeS b most l h → ∃ x : PA, x.t.Of l ∧ sat [blk b 91 (treeC x most), paH x] h := fun _ h => h
theorem treeS_close {b : Nat} {most : Int} {l : List Pt} : ∀ x : PA, x.t.Of l → ∀ h, sat [blk b 91 (treeC x most), paH x] h → treeS b most l h := fun x o _ s => ⟨x, o, s⟩
/-- .. of a tree. -/
theorem Ctr.treeR {P : Program} {f : FuncId} {args : Array Value} {L : List HP} {b : Nat} {most : Int} {l : List Pt} {R : Value → List HP → Prop}
    (C : ∀ (x : PA) (L' : List HP), x.t.Of l → LdN L' b 0 2 (treeC x most) → PIn L' x → Ctr P f args L' fun v L'' => ∃ X, R v X ∧ L'' = X ++ L') : Ctr P f args (treeS b most l :: L) fun v L' => ∃ X, R v X ∧ L' = X ++ (treeS b most l :: L) :=
  Ctr.read (ι := PA) (φ := fun x => x.t.Of l) (N := fun x => [blk b 91 (treeC x most), paH x]) treeS_open treeS_close fun x hx => C x _ hx (LdN.blk rfl) (paH_in x L).skip
/-- .. that leaves nothing. -/
theorem Ctr.tree0 {P : Program} {f : FuncId} {args : Array Value} {L : List HP} {b : Nat} {most : Int} {l : List Pt} {R : Value → Prop}
    (C : ∀ (x : PA) (L' : List HP), x.t.Of l → LdN L' b 0 2 (treeC x most) → PIn L' x → Ctr P f args L' fun v L'' => R v ∧ L'' = L') : Ctr P f args (treeS b most l :: L) fun v L' => R v ∧ L' = treeS b most l :: L :=
  (Ctr.treeR (R := fun v X => R v ∧ X = []) fun x L' o h hx => (C x L' o h hx).mono fun v L'' ⟨r, e⟩ => ⟨[], ⟨r, rfl⟩, e⟩).mono fun v L' ⟨X, ⟨r, e1⟩, e2⟩ => by subst e1; exact ⟨r, e2⟩
/-- .. that leaves a slice of its own. -/
theorem Ctr.treeM {P : Program} {f : FuncId} {args : Array Value} {L : List HP} {b : Nat} {most : Int} {l : List Pt} {T : TypeId} {α : Type} [E : Enc α] {m : List α}
    (C : ∀ (x : PA) (L' : List HP), x.t.Of l → LdN L' b 0 2 (treeC x most) → PIn L' x → Ctr P f args L' fun v L'' => Made T m L' v L'') : Ctr P f args (treeS b most l :: L) fun v L' => Made T m (treeS b most l :: L) v L' :=
  (Ctr.treeR (R := fun v X => ∃ A c, v = .slice A m.length c ∧ (0 < m.length → ∃ b, A = some ⟨b, 0, none⟩) ∧ X = [own T E.sz A m.length c (flat m)]) fun x L' o h hx => (C x L' o h hx).mono fun v L'' ⟨A, c, e1, e2, e3⟩ => ⟨_, ⟨A, c, e1, e2, rfl⟩, e3⟩).mono
    fun v L' ⟨X, ⟨A, c, e1, e2, e3⟩, e4⟩ => by subst e3; exact ⟨A, c, e1, e2, e4⟩
/-- A tree is opened. -/
theorem Ctr.tree {P : Program} {f : FuncId} {args : Array Value} {L : List HP} {b : Nat} {most : Int} {l : List Pt} {post : Value → List HP → Prop} (C : ∀ x : PA, x.t.Of l → Ctr P f args (blk b 91 (treeC x most) :: paH x :: L) post) : Ctr P f args (treeS b most l :: L) post := fun g F w hw => by
  obtain ⟨h1, h2, d, s1, s2, ⟨x, o, q⟩, t⟩ := hw.s.swap
  have hs : sat ([blk b 91 (treeC x most), paH x] ++ (F :: L)) w.hm := sat.head (A := fun h => h = h1) (fun _ e => e ▸ q) ⟨h1, h2, d, s1, s2, rfl, t⟩
  exact C x o g F w ⟨hw.g, hs.perm (List.perm_middle (l₁ := [blk b 91 (treeC x most), paH x]))⟩
theorem paH_pt {x : PA} : ∀ h, paH x h → ptH x.t x.addr h := paH_close x
/-- .. and closed: whatever tree lies there. -/
theorem en_tree {L M : List HP} {b : Nat} {a : Option Addr} {most : Int} {t : PT} {l : List Pt} (o : t.Of l) (f : ∀ h, sat L h → sat (blk b 91 [.pointer a, .int .i64 most] :: ptH t a :: M) h) : ∀ h, sat L h → sat (treeS b most l :: M) h := fun h s => by
  refine sat.fold (N := [_, _]) (fun h q => ?_) (f h s)
  obtain ⟨h1, h2, d, s1, s2, q1, k1, k2, d2, t1, t2, q2, z⟩ := q
  obtain ⟨x, rfl, rfl, hx⟩ := ptH_open t a _ q2
  exact ⟨x, o, h1, h2, d, s1, s2, q1, k1, k2, d2, t1, t2, hx, z⟩
/-- What a window sees of a tree. -/
theorem PA.seen_perm (w : Wn) : ∀ x : PA, x.t.Ok → (x.seen w).Perm ((x.t.els.filter fun p => w.sees p.x p.y).map (·.id))
  | .nil, _ => .refl _
  | .node b p s lo hi, h => by
    have h1 := seen_perm w lo h.1
    have h2 := seen_perm w hi h.2.1
    simp only [PA.t] at h
    have hlow : p.y < w.y → ∀ q ∈ lo.t.els ++ hi.t.els, w.sees q.x q.y = false := fun hy q hq => by
      have := h.2.2.2.2 q hq
      unfold und at this
      rw [decide_eq_true_eq] at this
      have := up_le q p (by omega)
      exact wn_low w q (by omega)
    have flo : (if !lo.isN && decide (w.x1 ≤ s.x) then lo.seen w else []).Perm ((lo.t.els.filter fun p => w.sees p.x p.y).map (·.id)) := by
      cases lo with
      | nil => exact .refl _
      | node b' p' s' lo' hi' =>
        by_cases hc : w.x1 ≤ s.x
        · simpa [PA.isN, hc] using h1
        · have e : ((PA.node b' p' s' lo' hi').t.els.filter fun p => w.sees p.x p.y) = [] := by
            rw [List.filter_eq_nil_iff]
            intro q hq
            have := h.2.2.1 q hq
            rw [beh_false] at this
            have h9 : ¬ s.less q = true := by rw [this]; simp
            rw [Pt.less_iff] at h9
            simp [Wn.sees, wthn]
            omega
          rw [e]
          simp [hc]
    have fhi : (if !hi.isN && decide (s.x ≤ w.x2) then hi.seen w else []).Perm ((hi.t.els.filter fun p => w.sees p.x p.y).map (·.id)) := by
      cases hi with
      | nil => exact .refl _
      | node b' p' s' lo' hi' =>
        by_cases hc : s.x ≤ w.x2
        · simpa [PA.isN, hc] using h2
        · have e : ((PA.node b' p' s' lo' hi').t.els.filter fun p => w.sees p.x p.y) = [] := by
            rw [List.filter_eq_nil_iff]
            intro q hq
            have := h.2.2.2.1 q hq
            rw [beh_true, Pt.less_iff] at this
            simp [Wn.sees, wthn]
            omega
          rw [e]
          simp [hc]
    simp only [PA.seen, PA.t, PT.els, List.filter_cons, List.filter_append]
    have tail : (if p.y < w.y then [] else (if !lo.isN && decide (w.x1 ≤ s.x) then lo.seen w else []) ++ (if !hi.isN && decide (s.x ≤ w.x2) then hi.seen w else [])).Perm (((lo.t.els.filter fun p => w.sees p.x p.y) ++ (hi.t.els.filter fun p => w.sees p.x p.y)).map (·.id)) := by
      by_cases hy : p.y < w.y
      · rw [if_pos hy, ← List.filter_append]
        have e : ((lo.t.els ++ hi.t.els).filter fun p => w.sees p.x p.y) = [] := by
          rw [List.filter_eq_nil_iff]
          intro q hq
          rw [hlow hy q hq]; simp
        rw [e]; exact .refl _
      · rw [if_neg hy, List.map_append]
        exact flo.append fhi
    cases hs : w.sees p.x p.y with
    | true => simpa [hs] using tail.cons p.id
    | false => simpa [hs] using tail
end Go.Proofs.Ytalcanejhniepaa
/- Trees that are heaps by Y: what changes them. -/
namespace Go.Proofs.Ytalcanejhniepaa
attribute [local irreducible] sat
set_option linter.unusedVariables false
set_option linter.unusedSimpArgs false
set_option maxRecDepth 100000

theorem PNew_ctr (most : Int) (L : List HP) (hm : 1 ≤ most ∧ most ≤ 1048576) : Ctr Try.prog 25 #[.int .i64 most] L fun v L' => ∃ b, v = .tuple #[.pointer (some ⟨b, 0, none⟩), .int .i64 0] ∧ L' = treeS b most [] :: L := by
  refine Ctr_of (fn := Try.f25) (n := 13) Try.func25 rfl rfl rfl ?_
  intro g F
  (repeat first | refine G_seq ?_ | refine G_skip ?_ | refine G_endblk ?_ | refine G_block ?_ | refine G_exit rfl ?_)
  refine G_region ?_
  refine GO_q rfl rfl (ev_assign rfl) ?_
  refine GO_q rfl rfl (ev_assign rfl) ?_
  refine GO_nil ?_
  (repeat first | refine G_seq ?_ | refine G_skip ?_ | refine G_endblk ?_ | refine G_block ?_ | refine G_exit rfl ?_)
  refine G_region ?_
  refine GO_q rfl rfl (ev_move rfl) ?_
  (first | refine GO_q rfl rfl (ev_lssN (q := 1) rfl rfl) ?_ | refine GO_q rfl rfl (ev_lss rfl rfl) ?_)
  refine GO_q rfl rfl (ev_move rfl) ?_
  refine GO_yes rfl rfl rfl (decide_eq_false (by omega)) ?_
  refine GO_q rfl rfl (ev_move rfl) ?_
  refine GO_yes rfl rfl rfl (decide_eq_false (by omega)) ?_
  refine GO_q rfl rfl (ev_gtr rfl rfl) ?_
  refine GO_q rfl rfl (ev_pick_f rfl (decide_eq_false (by omega)) rfl) ?_
  refine GO_nil ?_
  (repeat first | refine G_seq ?_ | refine G_skip ?_ | refine G_endblk ?_ | refine G_block ?_ | refine G_exit rfl ?_)
  refine G_cond_f rfl (decide_eq_false (by omega)) ?_
  (repeat first | refine G_seq ?_ | refine G_skip ?_ | refine G_endblk ?_ | refine G_block ?_ | refine G_exit rfl ?_)
  refine G_region ?_
  refine GO_q rfl rfl (ev_move rfl) ?_
  refine GO_q rfl rfl (ev_build rfl rfl) ?_
  refine GO_eff rfl rfl (eff_box rfl) ?_; rintro _ _ ⟨b12, rfl, rfl⟩
  refine GO_q rfl rfl (ev_assign rfl) ?_
  refine GO_q rfl rfl (ev_assign rfl) ?_
  refine GO_nil ?_
  (repeat first | refine G_seq ?_ | refine G_skip ?_ | refine G_endblk ?_ | refine G_block ?_ | refine G_exit rfl ?_)
  refine G_ret (L' := treeS b12 most [] :: L) rfl (.tmp rfl (.tmp rfl .nil)) ?_ ⟨b12, rfl, rfl⟩
  apply en_pick
  focus ((repeat' first | exact Pick.here | apply Pick.skip | apply Pick.app); done)
  exact en_tree (t := .nil) (a := none) PT.of_nil (by (repeat first | exact en_refl | apply en_nilI | (apply en_blk; focus ((repeat' first | exact Pick.here | apply Pick.skip | apply Pick.app); done); focus rfl) | (apply en_own; focus ((repeat' first | exact Pick.here | apply Pick.skip | apply Pick.app); done); focus rfl) | (apply en_pick; focus ((repeat' first | exact Pick.here | apply Pick.skip | apply Pick.app); done)) | apply en_drop | apply en_app) <;> fail)
theorem PNewBad_ctr (most : Int) (L : List HP) (hm : most < 1 ∨ 1048576 < most) : Ctr Try.prog 25 #[.int .i64 most] L fun v L' => v = .tuple #[.pointer none, .int .i64 1] ∧ L' = L := by
  by_cases h1 : most < 1
  · skip
    refine Ctr_of (fn := Try.f25) (n := 13) Try.func25 rfl rfl rfl ?_
    intro g F
    (repeat first | refine G_seq ?_ | refine G_skip ?_ | refine G_endblk ?_ | refine G_block ?_ | refine G_exit rfl ?_)
    refine G_region ?_
    refine GO_q rfl rfl (ev_assign rfl) ?_
    refine GO_q rfl rfl (ev_assign rfl) ?_
    refine GO_nil ?_
    (repeat first | refine G_seq ?_ | refine G_skip ?_ | refine G_endblk ?_ | refine G_block ?_ | refine G_exit rfl ?_)
    refine G_region ?_
    refine GO_q rfl rfl (ev_move rfl) ?_
    (first | refine GO_q rfl rfl (ev_lssN (q := 1) rfl rfl) ?_ | refine GO_q rfl rfl (ev_lss rfl rfl) ?_)
    refine GO_q rfl rfl (ev_move rfl) ?_
    refine GO_no rfl rfl rfl (decide_eq_true h1) ?_
    refine GO_no rfl rfl rfl (decide_eq_true h1) ?_
    refine GO_q rfl rfl (ev_pick_t rfl (decide_eq_true h1) rfl) ?_
    refine GO_nil ?_
    (repeat first | refine G_seq ?_ | refine G_skip ?_ | refine G_endblk ?_ | refine G_block ?_ | refine G_exit rfl ?_)
    refine G_cond_t rfl rfl ?_
    (repeat first | refine G_seq ?_ | refine G_skip ?_ | refine G_endblk ?_ | refine G_block ?_ | refine G_exit rfl ?_)
    refine G_region ?_
    refine GO_q rfl rfl (ev_assign rfl) ?_
    refine GO_q rfl rfl (ev_assign rfl) ?_
    refine GO_nil ?_
    (repeat first | refine G_seq ?_ | refine G_skip ?_ | refine G_endblk ?_ | refine G_block ?_ | refine G_exit rfl ?_)
    refine G_ret rfl (.tmp rfl (.tmp rfl .nil)) (by (repeat first | exact fun _ s => s | apply en_keep | apply en_drop | apply en_app) <;> fail) ⟨rfl, rfl⟩
  · have h2 : 1048576 < most := by omega
    refine Ctr_of (fn := Try.f25) (n := 13) Try.func25 rfl rfl rfl ?_
    intro g F
    (repeat first | refine G_seq ?_ | refine G_skip ?_ | refine G_endblk ?_ | refine G_block ?_ | refine G_exit rfl ?_)
    refine G_region ?_
    refine GO_q rfl rfl (ev_assign rfl) ?_
    refine GO_q rfl rfl (ev_assign rfl) ?_
    refine GO_nil ?_
    (repeat first | refine G_seq ?_ | refine G_skip ?_ | refine G_endblk ?_ | refine G_block ?_ | refine G_exit rfl ?_)
    refine G_region ?_
    refine GO_q rfl rfl (ev_move rfl) ?_
    (first | refine GO_q rfl rfl (ev_lssN (q := 1) rfl rfl) ?_ | refine GO_q rfl rfl (ev_lss rfl rfl) ?_)
    refine GO_q rfl rfl (ev_move rfl) ?_
    refine GO_yes rfl rfl rfl (decide_eq_false h1) ?_
    refine GO_q rfl rfl (ev_move rfl) ?_
    refine GO_yes rfl rfl rfl (decide_eq_false h1) ?_
    refine GO_q rfl rfl (ev_gtr rfl rfl) ?_
    refine GO_q rfl rfl (ev_pick_f rfl (decide_eq_false h1) rfl) ?_
    refine GO_nil ?_
    (repeat first | refine G_seq ?_ | refine G_skip ?_ | refine G_endblk ?_ | refine G_block ?_ | refine G_exit rfl ?_)
    refine G_cond_t rfl (decide_eq_true h2) ?_
    (repeat first | refine G_seq ?_ | refine G_skip ?_ | refine G_endblk ?_ | refine G_block ?_ | refine G_exit rfl ?_)
    refine G_region ?_
    refine GO_q rfl rfl (ev_assign rfl) ?_
    refine GO_q rfl rfl (ev_assign rfl) ?_
    refine GO_nil ?_
    (repeat first | refine G_seq ?_ | refine G_skip ?_ | refine G_endblk ?_ | refine G_block ?_ | refine G_exit rfl ?_)
    refine G_ret rfl (.tmp rfl (.tmp rfl .nil)) (by (repeat first | exact fun _ s => s | apply en_keep | apply en_drop | apply en_app) <;> fail) ⟨rfl, rfl⟩
def insC (most : Int) (l : List Pt) (p : Pt) : Int := if goodP p = false then 1 else if p ∈ l then 5 else if most ≤ l.length then 4 else 0
def insL (most : Int) (l : List Pt) (p : Pt) : List Pt := if insC most l p = 0 then p :: l else l
theorem PInsert_ctr (b : Nat) (most : Int) (l : List Pt) (p : Pt) (L : List HP) (hl : l.length + 1 ≤ 100000) :
    Ctr Try.prog 18 #[.pointer (some ⟨b, 0, none⟩), p.v] (treeS b most l :: L) fun v L' => v = .int .i64 (insC most l p) ∧ L' = treeS b most (insL most l p) :: L := by
  refine Ctr.tree fun x o => ?_
  have hmem : p ∈ x.t.els ↔ p ∈ l := o.perm.mem_iff
  have hsz := o.size
  have htr : ∀ L', LdN (blk b 91 (treeC x most) :: L') b 0 2 (treeC x most) := fun L' => LdN.blk rfl
  have hpin : ∀ L', PIn (paH x :: L') x := fun L' => paH_in x L'
  have hrt : ∀ L', Ld (blk b 91 (treeC x most) :: L') ⟨b, 0 + 0, none⟩ (.pointer x.addr) := fun L' => Ld.blk rfl
  refine Ctr_of (fn := Try.f18) (n := 37) Try.func18 rfl rfl rfl ?_
  intro g F
  (repeat first | refine G_seq ?_ | refine G_skip ?_ | refine G_endblk ?_ | refine G_block ?_ | refine G_exit rfl ?_)
  refine G_region ?_
  refine GO_eff rfl rfl (eff_box rfl) ?_; rintro _ _ ⟨b3, rfl, rfl⟩
  refine GO_q rfl rfl (ev_assign rfl) ?_
  refine GO_nil ?_
  cases hg : goodP p with
  | false =>
    have e1 : insC most l p = 1 := by unfold insC; rw [if_pos hg]
    have e2 : insL most l p = l := by unfold insL; rw [e1]; rfl
    rw [e1, e2]
    (repeat first | refine G_seq ?_ | refine G_skip ?_ | refine G_endblk ?_ | refine G_block ?_ | refine G_exit rfl ?_)
    refine G_region ?_
    refine GO_q rfl rfl (ev_move rfl) ?_
    (first | refine GO_q rfl rfl (ev_eqlNil rfl rfl) ?_ | refine GO_q rfl rfl (ev_eqlPtr rfl rfl) ?_)
    refine GO_q rfl rfl (ev_move rfl) ?_
    refine GO_yes rfl rfl rfl rfl ?_
    refine GO_q rfl rfl (ev_loadN rfl (by repeat' first | exact LdN.blk rfl | assumption | apply LdN.skip | apply LdN.app)) ?_
    refine GO_yes rfl rfl rfl rfl ?_
    refine GO_eff rfl rfl (eff_call rfl (KGood_ctr p _)) ?_; rintro _ _ ⟨rfl, rfl⟩
    refine GO_yes rfl rfl rfl rfl ?_
    refine GO_q rfl rfl (ev_not rfl) ?_
    refine GO_q rfl rfl (ev_pick_f rfl rfl rfl) ?_
    refine GO_q rfl rfl (ev_assign rfl) ?_
    refine GO_nil ?_
    (repeat first | refine G_seq ?_ | refine G_skip ?_ | refine G_endblk ?_ | refine G_block ?_ | refine G_exit rfl ?_)
    refine G_cond_t rfl (by rw [hg]; rfl) ?_
    (repeat first | refine G_seq ?_ | refine G_skip ?_ | refine G_endblk ?_ | refine G_block ?_ | refine G_exit rfl ?_)
    refine G_region ?_
    refine GO_q rfl rfl (ev_assign rfl) ?_
    refine GO_nil ?_
    (repeat first | refine G_seq ?_ | refine G_skip ?_ | refine G_endblk ?_ | refine G_block ?_ | refine G_exit rfl ?_)
    refine G_ret (L' := treeS b most l :: L) rfl (.tmp rfl .nil) ?_ ⟨rfl, rfl⟩
    apply en_pick
    focus ((repeat' first | exact Pick.here | apply Pick.skip | apply Pick.app); done)
    exact en_tree (t := x.t) (a := x.addr) o (by (repeat first | exact en_refl | apply en_pa rfl rfl | (apply en_blk; focus ((repeat' first | exact Pick.here | apply Pick.skip | apply Pick.app); done); focus rfl) | (apply en_own; focus ((repeat' first | exact Pick.here | apply Pick.skip | apply Pick.app); done); focus rfl) | (apply en_pick; focus ((repeat' first | exact Pick.here | apply Pick.skip | apply Pick.app); done)) | apply en_drop | apply en_app) <;> fail)
  | true =>
    (repeat first | refine G_seq ?_ | refine G_skip ?_ | refine G_endblk ?_ | refine G_block ?_ | refine G_exit rfl ?_)
    refine G_region ?_
    refine GO_q rfl rfl (ev_move rfl) ?_
    (first | refine GO_q rfl rfl (ev_eqlNil rfl rfl) ?_ | refine GO_q rfl rfl (ev_eqlPtr rfl rfl) ?_)
    refine GO_q rfl rfl (ev_move rfl) ?_
    refine GO_yes rfl rfl rfl rfl ?_
    refine GO_q rfl rfl (ev_loadN rfl (by repeat' first | exact LdN.blk rfl | assumption | apply LdN.skip | apply LdN.app)) ?_
    refine GO_yes rfl rfl rfl rfl ?_
    refine GO_eff rfl rfl (eff_call rfl (KGood_ctr p _)) ?_; rintro _ _ ⟨rfl, rfl⟩
    refine GO_yes rfl rfl rfl rfl ?_
    refine GO_q rfl rfl (ev_not rfl) ?_
    refine GO_q rfl rfl (ev_pick_f rfl rfl rfl) ?_
    refine GO_q rfl rfl (ev_assign rfl) ?_
    refine GO_nil ?_
    (repeat first | refine G_seq ?_ | refine G_skip ?_ | refine G_endblk ?_ | refine G_block ?_ | refine G_exit rfl ?_)
    refine G_cond_f rfl (by rw [hg]; rfl) ?_
    (repeat first | refine G_seq ?_ | refine G_skip ?_ | refine G_endblk ?_ | refine G_block ?_ | refine G_exit rfl ?_)
    refine G_region ?_
    refine GO_q rfl rfl (ev_move rfl) ?_
    refine GO_q rfl rfl (ev_loadN rfl (by repeat' first | exact LdN.blk rfl | assumption | apply LdN.skip | apply LdN.app)) ?_
    refine GO_eff rfl rfl (eff_call rfl (has_ctr b x most p _ (by repeat' first | exact htr _ | apply LdN.skip) (by repeat' first | exact hpin _ | apply PIn.skip) o.ok)) ?_; rintro _ _ ⟨rfl, rfl⟩
    refine GO_q rfl rfl (ev_assign rfl) ?_
    refine GO_nil ?_
    by_cases hp : p ∈ l
    · have e1 : insC most l p = 5 := by unfold insC; rw [if_neg (by simp [hg]), if_pos hp]
      have e2 : insL most l p = l := by unfold insL; rw [e1]; rfl
      rw [e1, e2]
      (repeat first | refine G_seq ?_ | refine G_skip ?_ | refine G_endblk ?_ | refine G_block ?_ | refine G_exit rfl ?_)
      refine G_cond_t rfl (decide_eq_true (hmem.2 hp)) ?_
      (repeat first | refine G_seq ?_ | refine G_skip ?_ | refine G_endblk ?_ | refine G_block ?_ | refine G_exit rfl ?_)
      refine G_region ?_
      refine GO_q rfl rfl (ev_assign rfl) ?_
      refine GO_nil ?_
      (repeat first | refine G_seq ?_ | refine G_skip ?_ | refine G_endblk ?_ | refine G_block ?_ | refine G_exit rfl ?_)
      refine G_ret (L' := treeS b most l :: L) rfl (.tmp rfl .nil) ?_ ⟨rfl, rfl⟩
      apply en_pick
      focus ((repeat' first | exact Pick.here | apply Pick.skip | apply Pick.app); done)
      exact en_tree (t := x.t) (a := x.addr) o (by (repeat first | exact en_refl | apply en_pa rfl rfl | (apply en_blk; focus ((repeat' first | exact Pick.here | apply Pick.skip | apply Pick.app); done); focus rfl) | (apply en_own; focus ((repeat' first | exact Pick.here | apply Pick.skip | apply Pick.app); done); focus rfl) | (apply en_pick; focus ((repeat' first | exact Pick.here | apply Pick.skip | apply Pick.app); done)) | apply en_drop | apply en_app) <;> fail)
    · have hp' : p ∉ x.t.els := fun h => hp (hmem.1 h)
      (repeat first | refine G_seq ?_ | refine G_skip ?_ | refine G_endblk ?_ | refine G_block ?_ | refine G_exit rfl ?_)
      refine G_cond_f rfl (decide_eq_false hp') ?_
      (repeat first | refine G_seq ?_ | refine G_skip ?_ | refine G_endblk ?_ | refine G_block ?_ | refine G_exit rfl ?_)
      refine G_draw (.q 0 (.q 1 (.q 2 (.q 3 (.q 5 (.q 6 (.q 7 (.q 8 (.e 4 (.q 9 (.q 10 .nil))))))))))) (by kernel_rfl) (by kernel_rfl) ?_
      refine RS_m retB_noPanic rfl rfl rfl rfl (ev_move rfl) ?_
      (first | refine RS_m retB_noPanic rfl rfl rfl rfl (ev_nilCheck rfl) ?_ | refine RS_m retB_noPanic rfl rfl rfl rfl (ev_nilCheckF (by simp) rfl) ?_)
      refine RS_m retB_noPanic rfl rfl rfl rfl (ev_fieldAddr rfl) ?_
      refine RS_q retB_noPanic rfl rfl rfl rfl (ev_load rfl (by repeat' first | exact Ld.blk rfl | assumption | apply Ld.skip | apply Ld.app)) ?_
      refine RS_m retB_noPanic rfl rfl rfl rfl (ev_move rfl) ?_
      (first | refine RS_m retB_noPanic rfl rfl rfl rfl (ev_nilCheck rfl) ?_ | refine RS_m retB_noPanic rfl rfl rfl rfl (ev_nilCheckF (by simp) rfl) ?_)
      refine RS_m retB_noPanic rfl rfl rfl rfl (ev_fieldAddr rfl) ?_
      refine RS_q retB_noPanic rfl rfl rfl rfl (ev_load rfl (by repeat' first | exact Ld.blk rfl | assumption | apply Ld.skip | apply Ld.app)) ?_
      refine RS_e (RE_eff rfl rfl rfl (eff_call rfl (rsize_ctr x _ (by repeat' first | exact hpin _ | apply PIn.skip))) ?_); rintro _ _ ⟨rfl, rfl⟩; refine ⟨_, fun _ s => s, (by first | ((repeat first | exact fun _ s => s | apply en_keep | apply en_drop | apply en_app) <;> fail) | ((repeat first | exact en_refl | (apply en_blk; focus ((repeat' first | exact Pick.here | apply Pick.skip | apply Pick.app); done); focus rfl) | (apply en_own; focus ((repeat' first | exact Pick.here | apply Pick.skip | apply Pick.app); done); focus rfl) | (apply en_pick; focus ((repeat' first | exact Pick.here | apply Pick.skip | apply Pick.app); done)) | apply en_drop | apply en_app) <;> fail)), ?_⟩
      refine RS_m retB_noPanic rfl rfl rfl rfl (ev_geq rfl rfl) ?_
      refine RS_m retB_noPanic rfl rfl rfl rfl (ev_assign rfl) ?_
      refine RS_nil ?_
      by_cases hfull : most ≤ l.length
      · have e1 : insC most l p = 4 := by unfold insC; rw [if_neg (by simp [hg]), if_neg hp, if_pos hfull]
        have e2 : insL most l p = l := by unfold insL; rw [e1]; rfl
        rw [e1, e2]
        (repeat first | refine G_seq ?_ | refine G_skip ?_ | refine G_endblk ?_ | refine G_block ?_ | refine G_exit rfl ?_)
        refine G_cond_t rfl (decide_eq_true (by rw [hsz]; exact hfull)) ?_
        (repeat first | refine G_seq ?_ | refine G_skip ?_ | refine G_endblk ?_ | refine G_block ?_ | refine G_exit rfl ?_)
        refine G_region ?_
        refine GO_q rfl rfl (ev_assign rfl) ?_
        refine GO_nil ?_
        (repeat first | refine G_seq ?_ | refine G_skip ?_ | refine G_endblk ?_ | refine G_block ?_ | refine G_exit rfl ?_)
        refine G_ret (L' := treeS b most l :: L) rfl (.tmp rfl .nil) ?_ ⟨rfl, rfl⟩
        apply en_pick
        focus ((repeat' first | exact Pick.here | apply Pick.skip | apply Pick.app); done)
        exact en_tree (t := x.t) (a := x.addr) o (by (repeat first | exact en_refl | apply en_pa rfl rfl | (apply en_blk; focus ((repeat' first | exact Pick.here | apply Pick.skip | apply Pick.app); done); focus rfl) | (apply en_own; focus ((repeat' first | exact Pick.here | apply Pick.skip | apply Pick.app); done); focus rfl) | (apply en_pick; focus ((repeat' first | exact Pick.here | apply Pick.skip | apply Pick.app); done)) | apply en_drop | apply en_app) <;> fail)
      · have e1 : insC most l p = 0 := by unfold insC; rw [if_neg (by simp [hg]), if_neg hp, if_neg hfull]
        have e2 : insL most l p = p :: l := by unfold insL; rw [e1]; rfl
        rw [e1, e2]
        (repeat first | refine G_seq ?_ | refine G_skip ?_ | refine G_endblk ?_ | refine G_block ?_ | refine G_exit rfl ?_)
        refine G_cond_f rfl (decide_eq_false (by rw [hsz]; exact hfull)) ?_
        (repeat first | refine G_seq ?_ | refine G_skip ?_ | refine G_endblk ?_ | refine G_block ?_ | refine G_exit rfl ?_)
        refine G_drawE 3 (.q 0 (.q 1 (.q 2 (.q 3 (.q 4 (.q 5 (.e 6 (.q 7 (.q 8 (.e 9 .nil)))))))))) (by kernel_rfl) (by kernel_rfl) ?_
        refine RS_m retB_noPanic rfl rfl rfl rfl (ev_move rfl) ?_
        refine RS_m retB_noPanic rfl rfl rfl rfl (ev_move rfl) ?_
        (first | refine RS_m retB_noPanic rfl rfl rfl rfl (ev_nilCheck rfl) ?_ | refine RS_m retB_noPanic rfl rfl rfl rfl (ev_nilCheckF (by simp) rfl) ?_)
        refine RS_m retB_noPanic rfl rfl rfl rfl (ev_fieldAddr rfl) ?_
        refine RS_q retB_noPanic rfl rfl rfl rfl (ev_load rfl (by repeat' first | exact Ld.blk rfl | assumption | apply Ld.skip | apply Ld.app)) ?_
        refine RS_q retB_noPanic rfl rfl rfl rfl (ev_loadN rfl (by repeat' first | exact LdN.blk rfl | assumption | apply LdN.skip | apply LdN.app)) ?_
        refine RS_e (RE_cmp (by kernel_rfl) rfl rfl rfl (eff_call rfl (Ctr.pre (M := ptH x.t x.addr :: _) (by (repeat first | exact en_refl | apply en_pa rfl rfl | (apply en_blk; focus ((repeat' first | exact Pick.here | apply Pick.skip | apply Pick.app); done); focus rfl) | (apply en_own; focus ((repeat' first | exact Pick.here | apply Pick.skip | apply Pick.app); done); focus rfl) | (apply en_pick; focus ((repeat' first | exact Pick.here | apply Pick.skip | apply Pick.app); done)) | apply en_drop | apply en_app) <;> fail) (put_ctr x.t x.addr p _ o.ok o.bal hp' (by omega)))) ?_); rintro _ _ ⟨a2, t2, rfl, o2, rfl⟩
        (first | refine RS_m retB_noPanic rfl rfl rfl rfl (ev_nilCheck rfl) ?_ | refine RS_m retB_noPanic rfl rfl rfl rfl (ev_nilCheckF (by simp) rfl) ?_)
        refine RS_m retB_noPanic rfl rfl rfl rfl (ev_fieldAddr rfl) ?_
        refine RS_e (RE_last (by kernel_rfl) rfl rfl rfl (eff_store rfl rfl rfl (by repeat' first | exact Upd.here rfl | apply Upd.skip | apply Upd.app)) ?_); rintro _ _ ⟨rfl, rfl⟩
        (repeat first | refine G_seq ?_ | refine G_skip ?_ | refine G_endblk ?_ | refine G_block ?_ | refine G_exit rfl ?_)
        refine G_region ?_
        refine GO_q rfl rfl (ev_assign rfl) ?_
        refine GO_nil ?_
        (repeat first | refine G_seq ?_ | refine G_skip ?_ | refine G_endblk ?_ | refine G_block ?_ | refine G_exit rfl ?_)
        refine G_ret (L' := treeS b most (p :: l) :: L) rfl (.tmp rfl .nil) ?_ ⟨rfl, rfl⟩
        apply en_pick
        focus ((repeat' first | exact Pick.here | apply Pick.skip | apply Pick.app); done)
        exact en_tree (t := t2) (a := a2) (o2.congr (o.perm.cons p)) (by (repeat first | exact en_refl | (apply en_blk; focus ((repeat' first | exact Pick.here | apply Pick.skip | apply Pick.app); done); focus rfl) | (apply en_own; focus ((repeat' first | exact Pick.here | apply Pick.skip | apply Pick.app); done); focus rfl) | (apply en_pick; focus ((repeat' first | exact Pick.here | apply Pick.skip | apply Pick.app); done)) | apply en_drop | apply en_app) <;> fail)
def delC (l : List Pt) (p : Pt) : Int := if p ∈ l then 0 else 6
theorem PDelete_ctr (b : Nat) (most : Int) (l : List Pt) (p : Pt) (L : List HP) (hl : l.length ≤ 100000) :
    Ctr Try.prog 19 #[.pointer (some ⟨b, 0, none⟩), p.v] (treeS b most l :: L) fun v L' => v = .int .i64 (delC l p) ∧ L' = treeS b most (l.erase p) :: L := by
  refine Ctr.tree fun x o => ?_
  have hmem : p ∈ x.t.els ↔ p ∈ l := o.perm.mem_iff
  have hsz := o.size
  have htr : ∀ L', LdN (blk b 91 (treeC x most) :: L') b 0 2 (treeC x most) := fun L' => LdN.blk rfl
  have hpin : ∀ L', PIn (paH x :: L') x := fun L' => paH_in x L'
  refine Ctr_of (fn := Try.f19) (n := 22) Try.func19 rfl rfl rfl ?_
  intro g F
  (repeat first | refine G_seq ?_ | refine G_skip ?_ | refine G_endblk ?_ | refine G_block ?_ | refine G_exit rfl ?_)
  refine G_region ?_
  refine GO_eff rfl rfl (eff_box rfl) ?_; rintro _ _ ⟨b3, rfl, rfl⟩
  refine GO_q rfl rfl (ev_assign rfl) ?_
  refine GO_nil ?_
  (repeat first | refine G_seq ?_ | refine G_skip ?_ | refine G_endblk ?_ | refine G_block ?_ | refine G_exit rfl ?_)
  refine G_region ?_
  refine GO_q rfl rfl (ev_move rfl) ?_
  (first | refine GO_q rfl rfl (ev_eqlNil rfl rfl) ?_ | refine GO_q rfl rfl (ev_eqlPtr rfl rfl) ?_)
  refine GO_q rfl rfl (ev_assign rfl) ?_
  refine GO_nil ?_
  (repeat first | refine G_seq ?_ | refine G_skip ?_ | refine G_endblk ?_ | refine G_block ?_ | refine G_exit rfl ?_)
  refine G_cond_f rfl rfl ?_
  (repeat first | refine G_seq ?_ | refine G_skip ?_ | refine G_endblk ?_ | refine G_block ?_ | refine G_exit rfl ?_)
  refine G_region ?_
  refine GO_q rfl rfl (ev_move rfl) ?_
  refine GO_q rfl rfl (ev_loadN rfl (by repeat' first | exact LdN.blk rfl | assumption | apply LdN.skip | apply LdN.app)) ?_
  refine GO_eff rfl rfl (eff_call rfl (has_ctr b x most p _ (by repeat' first | exact htr _ | apply LdN.skip) (by repeat' first | exact hpin _ | apply PIn.skip) o.ok)) ?_; rintro _ _ ⟨rfl, rfl⟩
  refine GO_q rfl rfl (ev_not rfl) ?_
  refine GO_q rfl rfl (ev_assign rfl) ?_
  refine GO_nil ?_
  by_cases hp : p ∈ l
  · have e1 : delC l p = 0 := if_pos hp
    rw [e1]
    (repeat first | refine G_seq ?_ | refine G_skip ?_ | refine G_endblk ?_ | refine G_block ?_ | refine G_exit rfl ?_)
    refine G_cond_f rfl (by rw [decide_eq_true (hmem.2 hp)]; rfl) ?_
    (repeat first | refine G_seq ?_ | refine G_skip ?_ | refine G_endblk ?_ | refine G_block ?_ | refine G_exit rfl ?_)
    refine G_drawE 3 (.q 0 (.q 1 (.q 2 (.q 3 (.q 4 (.q 5 (.e 6 (.q 7 (.q 8 (.e 9 .nil)))))))))) (by kernel_rfl) (by kernel_rfl) ?_
    refine RS_m retB_noPanic rfl rfl rfl rfl (ev_move rfl) ?_
    refine RS_m retB_noPanic rfl rfl rfl rfl (ev_move rfl) ?_
    (first | refine RS_m retB_noPanic rfl rfl rfl rfl (ev_nilCheck rfl) ?_ | refine RS_m retB_noPanic rfl rfl rfl rfl (ev_nilCheckF (by simp) rfl) ?_)
    refine RS_m retB_noPanic rfl rfl rfl rfl (ev_fieldAddr rfl) ?_
    refine RS_q retB_noPanic rfl rfl rfl rfl (ev_load rfl (by repeat' first | exact Ld.blk rfl | assumption | apply Ld.skip | apply Ld.app)) ?_
    refine RS_q retB_noPanic rfl rfl rfl rfl (ev_loadN rfl (by repeat' first | exact LdN.blk rfl | assumption | apply LdN.skip | apply LdN.app)) ?_
    refine RS_e (RE_cmp (by kernel_rfl) rfl rfl rfl (eff_call rfl (Ctr.pre (M := ptH x.t x.addr :: _) (by (repeat first | exact en_refl | apply en_pa rfl rfl | (apply en_blk; focus ((repeat' first | exact Pick.here | apply Pick.skip | apply Pick.app); done); focus rfl) | (apply en_own; focus ((repeat' first | exact Pick.here | apply Pick.skip | apply Pick.app); done); focus rfl) | (apply en_pick; focus ((repeat' first | exact Pick.here | apply Pick.skip | apply Pick.app); done)) | apply en_drop | apply en_app) <;> fail) (cut_ctr x.t x.addr p _ o.ok o.bal (hmem.2 hp) (by omega)))) ?_); rintro _ _ ⟨a2, t2, rfl, o2, rfl⟩
    (first | refine RS_m retB_noPanic rfl rfl rfl rfl (ev_nilCheck rfl) ?_ | refine RS_m retB_noPanic rfl rfl rfl rfl (ev_nilCheckF (by simp) rfl) ?_)
    refine RS_m retB_noPanic rfl rfl rfl rfl (ev_fieldAddr rfl) ?_
    refine RS_e (RE_last (by kernel_rfl) rfl rfl rfl (eff_store rfl rfl rfl (by repeat' first | exact Upd.here rfl | apply Upd.skip | apply Upd.app)) ?_); rintro _ _ ⟨rfl, rfl⟩
    (repeat first | refine G_seq ?_ | refine G_skip ?_ | refine G_endblk ?_ | refine G_block ?_ | refine G_exit rfl ?_)
    refine G_region ?_
    refine GO_q rfl rfl (ev_assign rfl) ?_
    refine GO_nil ?_
    (repeat first | refine G_seq ?_ | refine G_skip ?_ | refine G_endblk ?_ | refine G_block ?_ | refine G_exit rfl ?_)
    refine G_ret (L' := treeS b most (l.erase p) :: L) rfl (.tmp rfl .nil) ?_ ⟨rfl, rfl⟩
    apply en_pick
    focus ((repeat' first | exact Pick.here | apply Pick.skip | apply Pick.app); done)
    exact en_tree (t := t2) (a := a2) (o2.congr (o.perm.erase p)) (by (repeat first | exact en_refl | (apply en_blk; focus ((repeat' first | exact Pick.here | apply Pick.skip | apply Pick.app); done); focus rfl) | (apply en_own; focus ((repeat' first | exact Pick.here | apply Pick.skip | apply Pick.app); done); focus rfl) | (apply en_pick; focus ((repeat' first | exact Pick.here | apply Pick.skip | apply Pick.app); done)) | apply en_drop | apply en_app) <;> fail)
  · have e1 : delC l p = 6 := if_neg hp
    rw [e1, List.erase_of_not_mem hp]
    (repeat first | refine G_seq ?_ | refine G_skip ?_ | refine G_endblk ?_ | refine G_block ?_ | refine G_exit rfl ?_)
    refine G_cond_t rfl (by rw [decide_eq_false (fun h => hp (hmem.1 h))]; rfl) ?_
    (repeat first | refine G_seq ?_ | refine G_skip ?_ | refine G_endblk ?_ | refine G_block ?_ | refine G_exit rfl ?_)
    refine G_region ?_
    refine GO_q rfl rfl (ev_assign rfl) ?_
    refine GO_nil ?_
    (repeat first | refine G_seq ?_ | refine G_skip ?_ | refine G_endblk ?_ | refine G_block ?_ | refine G_exit rfl ?_)
    refine G_ret (L' := treeS b most l :: L) rfl (.tmp rfl .nil) ?_ ⟨rfl, rfl⟩
    apply en_pick
    focus ((repeat' first | exact Pick.here | apply Pick.skip | apply Pick.app); done)
    exact en_tree (t := x.t) (a := x.addr) o (by (repeat first | exact en_refl | apply en_pa rfl rfl | (apply en_blk; focus ((repeat' first | exact Pick.here | apply Pick.skip | apply Pick.app); done); focus rfl) | (apply en_own; focus ((repeat' first | exact Pick.here | apply Pick.skip | apply Pick.app); done); focus rfl) | (apply en_pick; focus ((repeat' first | exact Pick.here | apply Pick.skip | apply Pick.app); done)) | apply en_drop | apply en_app) <;> fail)
theorem SHas_ctr (b : Nat) (most : Int) (l : List Pt) (p : Pt) (L : List HP) : Ctr Try.prog 31 #[.pointer (some ⟨b, 0, none⟩), p.v] (treeS b most l :: L) fun v L' => v = .bool (decide (p ∈ l)) ∧ L' = treeS b most l :: L :=
  Ctr.tree0 (R := fun v => v = .bool (decide (p ∈ l))) fun x L' o h hx => (Has_ctr' b x most p L' h hx o.ok).mono fun v L'' ⟨e1, e2⟩ => ⟨by rw [e1, decide_eq_decide.2 o.perm.mem_iff], e2⟩
theorem SLen_ctr (b : Nat) (most : Int) (l : List Pt) (L : List HP) : Ctr Try.prog 23 #[.pointer (some ⟨b, 0, none⟩)] (treeS b most l :: L) fun v L' => v = .int .i64 (l.length : Nat) ∧ L' = treeS b most l :: L :=
  Ctr.tree0 (R := fun v => v = .int .i64 (l.length : Nat)) fun x L' o h hx => (PLen_ctr b x most L' h hx).mono fun v L'' ⟨e1, e2⟩ => ⟨by rw [e1, o.size], e2⟩
/-- The ids of what a window sees of points. -/
def winIds (w : Wn) (l : List Pt) : List Int := (l.filter fun p => w.sees p.x p.y).map (·.id)
theorem winIds_of {w : Wn} {x : PA} {l : List Pt} (o : x.t.Of l) : (x.seen w).Perm (winIds w l) := (x.seen_perm w o.ok).trans ((o.perm.filter _).map _)
theorem srt_congr {l m : List Int} (h : l.Perm m) : srt l = srt m := by rw [← rising_srt l l (.refl _), rising_srt l m h]
theorem SReport_ctr (b : Nat) (most : Int) (w : Wn) (l : List Pt) (L : List HP) (hl : l.length ≤ 100000) :
    Ctr Try.prog 21 #[.pointer (some ⟨b, 0, none⟩), .agg #[.int .i64 w.x1, .int .i64 w.x2, .int .i64 w.y]] (treeS b most l :: L) fun v L' => Made 3 (srt (winIds w l)) (treeS b most l :: L) v L' :=
  Ctr.treeM fun x L' o h hx => by
    rw [← srt_congr (winIds_of o)]
    exact Report_ctr b x most w L' h hx (by rw [o.size]; exact hl)
theorem SCount_ctr (b : Nat) (most : Int) (w : Wn) (l : List Pt) (L : List HP) (hl : l.length ≤ 100000) :
    Ctr Try.prog 27 #[.pointer (some ⟨b, 0, none⟩), .agg #[.int .i64 w.x1, .int .i64 w.x2, .int .i64 w.y]] (treeS b most l :: L) fun v L' => v = .int .i64 ((winIds w l).length : Nat) ∧ L' = treeS b most l :: L :=
  Ctr.tree0 (R := fun v => v = .int .i64 ((winIds w l).length : Nat)) fun x L' o h hx => (Count_ctr b x most w L' h hx (by rw [o.size]; exact hl)).mono fun v L'' ⟨e1, e2⟩ => ⟨by rw [e1, (winIds_of o).length_eq], e2⟩
theorem SDepth_ctr (b : Nat) (most : Int) (l : List Pt) (L : List HP) (hl : l.length ≤ 100000) : Ctr Try.prog 28 #[.pointer (some ⟨b, 0, none⟩)] (treeS b most l :: L) fun v L' => (∃ d : Nat, v = .int .i64 (d : Nat) ∧ d ≤ bound l.length) ∧ L' = treeS b most l :: L :=
  Ctr.tree0 (R := fun v => ∃ d : Nat, v = .int .i64 (d : Nat) ∧ d ≤ bound l.length) fun x L' o h hx => (PDepth_ctr b x most L' h hx (by rw [o.size]; exact hl)).mono fun v L'' ⟨e1, e2⟩ => ⟨⟨_, e1, by
    have h1 := PT.depth_bnd o.bal
    rw [o.size] at h1
    unfold bound
    split
    · have : l.length = 0 := by omega
      rw [this, bnd1_zero] at h1
      exact h1
    · omega⟩, e2⟩
end Go.Proofs.Ytalcanejhniepaa
/- Trees that are heaps by Y: that all is as it should be. -/
namespace Go.Proofs.Ytalcanejhniepaa
attribute [local irreducible] sat
set_option linter.unusedVariables false
set_option linter.unusedSimpArgs false
set_option maxRecDepth 100000

theorem rpoints_ctr : ∀ (x : PA) (L : List HP), PIn L x → x.t.Ok → x.t.size ≤ 100000 → Ctr Try.prog 82 #[.pointer x.addr] L fun v L' => Made 39 x.t.pts L v L'
  | .nil, L, _, _, _ => by
    refine Ctr_of (fn := Try.f82) (n := 22) Try.func82 rfl rfl rfl ?_
    intro g F
    (repeat first | refine G_seq ?_ | refine G_skip ?_ | refine G_endblk ?_ | refine G_block ?_ | refine G_exit rfl ?_)
    refine G_region ?_
    refine GO_q rfl rfl (ev_assign rfl) ?_
    refine GO_nil ?_
    (repeat first | refine G_seq ?_ | refine G_skip ?_ | refine G_endblk ?_ | refine G_block ?_ | refine G_exit rfl ?_)
    refine G_region ?_
    refine GO_q rfl rfl (ev_move rfl) ?_
    (first | refine GO_q rfl rfl (ev_eqlNil rfl rfl) ?_ | refine GO_q rfl rfl (ev_eqlPtr rfl rfl) ?_)
    refine GO_nil ?_
    (repeat first | refine G_seq ?_ | refine G_skip ?_ | refine G_endblk ?_ | refine G_block ?_ | refine G_exit rfl ?_)
    refine G_cond_t rfl rfl ?_
    (repeat first | refine G_seq ?_ | refine G_skip ?_ | refine G_endblk ?_ | refine G_block ?_ | refine G_exit rfl ?_)
    refine G_region ?_
    refine GO_q rfl rfl (ev_assign rfl) ?_
    refine GO_nil ?_
    (repeat first | refine G_seq ?_ | refine G_skip ?_ | refine G_endblk ?_ | refine G_block ?_ | refine G_exit rfl ?_)
    exact G_ret (L' := own 39 3 none 0 0 [] :: L) rfl (.tmp rfl .nil) (fun h s => (own.nil_ 39 3 h s) |> (fun s => en_pick (.skip .here) en_refl h s)) ⟨none, 0, rfl, fun h => absurd h (Nat.lt_irrefl 0), rfl⟩
  | .node b p s lo hi, L, hin, hOk, hsz => by
    have ih1 := fun L h => rpoints_ctr lo L h hOk.1 (by simp only [PA.t, PT.size] at hsz; omega)
    have ih2 := fun L h => rpoints_ctr hi L h hOk.2.1 (by simp only [PA.t, PT.size] at hsz; omega)
    have l1 := lo.t.pts_length
    have l2 := hi.t.pts_length
    have hk := PT.kids_asc hOk (PT.pts_asc hOk.1) (PT.pts_asc hOk.2.1)
    simp only [PA.t, PT.size] at hsz
    obtain ⟨q1, q2, q3, q4, q5, q6, q7, q8, q9⟩ := hin.f
    refine Ctr_of (fn := Try.f82) (n := 22) Try.func82 rfl rfl rfl ?_
    intro g F
    (repeat first | refine G_seq ?_ | refine G_skip ?_ | refine G_endblk ?_ | refine G_block ?_ | refine G_exit rfl ?_)
    refine G_region ?_
    refine GO_q rfl rfl (ev_assign rfl) ?_
    refine GO_nil ?_
    (repeat first | refine G_seq ?_ | refine G_skip ?_ | refine G_endblk ?_ | refine G_block ?_ | refine G_exit rfl ?_)
    refine G_region ?_
    refine GO_q rfl rfl (ev_move rfl) ?_
    (first | refine GO_q rfl rfl (ev_eqlNil rfl rfl) ?_ | refine GO_q rfl rfl (ev_eqlPtr rfl rfl) ?_)
    refine GO_nil ?_
    (repeat first | refine G_seq ?_ | refine G_skip ?_ | refine G_endblk ?_ | refine G_block ?_ | refine G_exit rfl ?_)
    refine G_cond_f rfl rfl ?_
    (repeat first | refine G_seq ?_ | refine G_skip ?_ | refine G_endblk ?_ | refine G_block ?_ | refine G_exit rfl ?_)
    refine G_draw (.q 0 (.q 1 (.q 2 (.q 3 (.q 5 (.q 6 (.q 7 (.q 8 (.q 12 (.q 13 (.q 14 (.q 15 (.e 4 (.e 9 (.e 10 (.e 11 (.e 16 (.q 17 .nil)))))))))))))))))) (by kernel_rfl) (by kernel_rfl) ?_
    refine RS_m retB_noPanic rfl rfl rfl rfl (ev_move rfl) ?_
    (first | refine RS_m retB_noPanic rfl rfl rfl rfl (ev_nilCheck rfl) ?_ | refine RS_m retB_noPanic rfl rfl rfl rfl (ev_nilCheckF (by simp) rfl) ?_)
    refine RS_m retB_noPanic rfl rfl rfl rfl (ev_fieldAddr rfl) ?_
    refine RS_q retB_noPanic rfl rfl rfl rfl (ev_load rfl (by repeat' first | exact Ld.blk rfl | assumption | apply Ld.skip | apply Ld.app)) ?_
    refine RS_m retB_noPanic rfl rfl rfl rfl (ev_move rfl) ?_
    (first | refine RS_m retB_noPanic rfl rfl rfl rfl (ev_nilCheck rfl) ?_ | refine RS_m retB_noPanic rfl rfl rfl rfl (ev_nilCheckF (by simp) rfl) ?_)
    refine RS_m retB_noPanic rfl rfl rfl rfl (ev_fieldAddr rfl) ?_
    refine RS_q retB_noPanic rfl rfl rfl rfl (ev_load rfl (by repeat' first | exact Ld.blk rfl | assumption | apply Ld.skip | apply Ld.app)) ?_
    refine RS_m retB_noPanic rfl rfl rfl rfl (ev_move rfl) ?_
    (first | refine RS_m retB_noPanic rfl rfl rfl rfl (ev_nilCheck rfl) ?_ | refine RS_m retB_noPanic rfl rfl rfl rfl (ev_nilCheckF (by simp) rfl) ?_)
    refine RS_m retB_noPanic rfl rfl rfl rfl (ev_fieldAddr rfl) ?_
    refine RS_q retB_noPanic rfl rfl rfl rfl (ev_loadN rfl (by repeat' first | exact LdN.blk rfl | assumption | apply LdN.skip | apply LdN.app)) ?_
    refine RS_e (RE_eff rfl rfl rfl (eff_call rfl (ih1 _ hin.2.1.skip)) ?_); rintro _ _ ⟨A9, c9, rfl, hA9, rfl⟩; refine ⟨_, (by first | ((repeat first | exact fun _ s => s | apply en_keep | apply en_drop | apply en_app) <;> fail) | ((repeat first | exact en_refl | (apply en_blk; focus ((repeat' first | exact Pick.here | apply Pick.skip | apply Pick.app); done); focus rfl) | (apply en_own; focus ((repeat' first | exact Pick.here | apply Pick.skip | apply Pick.app); done); focus rfl) | (apply en_pick; focus ((repeat' first | exact Pick.here | apply Pick.skip | apply Pick.app); done)) | apply en_drop | apply en_app) <;> fail)), fun _ s => s, ?_⟩
    refine RS_e (RE_eff rfl rfl rfl (eff_call rfl (ih2 _ hin.2.2.skip.skip)) ?_); rintro _ _ ⟨A14, c14, rfl, hA14, rfl⟩; refine ⟨_, (by first | ((repeat first | exact fun _ s => s | apply en_keep | apply en_drop | apply en_app) <;> fail) | ((repeat first | exact en_refl | (apply en_blk; focus ((repeat' first | exact Pick.here | apply Pick.skip | apply Pick.app); done); focus rfl) | (apply en_own; focus ((repeat' first | exact Pick.here | apply Pick.skip | apply Pick.app); done); focus rfl) | (apply en_pick; focus ((repeat' first | exact Pick.here | apply Pick.skip | apply Pick.app); done)) | apply en_drop | apply en_app) <;> fail)), fun _ s => s, ?_⟩
    refine RS_e (RE_eff rfl rfl rfl (eff_buildSliceN (by rfl) rfl rfl) ?_); rintro _ _ ⟨b15, rfl, rfl⟩; refine ⟨_, (by first | ((repeat first | exact fun _ s => s | apply en_keep | apply en_drop | apply en_app) <;> fail) | ((repeat first | exact en_refl | (apply en_blk; focus ((repeat' first | exact Pick.here | apply Pick.skip | apply Pick.app); done); focus rfl) | (apply en_own; focus ((repeat' first | exact Pick.here | apply Pick.skip | apply Pick.app); done); focus rfl) | (apply en_pick; focus ((repeat' first | exact Pick.here | apply Pick.skip | apply Pick.app); done)) | apply en_drop | apply en_app) <;> fail)), fun _ s => s, ?_⟩
    refine RS_e (RE_eff rfl rfl rfl (eff_call rfl (Ctr.pre (M := blk b15 31 [.slice A9 lo.t.pts.length c9, .slice A14 hi.t.pts.length c14] :: own 39 3 A9 lo.t.pts.length c9 (flat lo.t.pts) :: own 39 3 A14 hi.t.pts.length c14 (flat hi.t.pts) :: _) (by (repeat first | exact en_refl | (apply en_blk; focus ((repeat' first | exact Pick.here | apply Pick.skip | apply Pick.app); done); focus rfl) | (apply en_own; focus ((repeat' first | exact Pick.here | apply Pick.skip | apply Pick.app); done); focus rfl) | (apply en_pick; focus ((repeat' first | exact Pick.here | apply Pick.skip | apply Pick.app); done)) | apply en_drop | apply en_app) <;> fail) (Concat_ctr A9 A14 _ _ c9 c14 b15 lo.t.pts hi.t.pts _ rfl rfl (by omega) (by omega) hA9 hA14))) ?_); rintro _ _ ⟨A16, c16, rfl, hA16, rfl⟩; refine ⟨_, (by first | ((repeat first | exact fun _ s => s | apply en_keep | apply en_drop | apply en_app) <;> fail) | ((repeat first | exact en_refl | (apply en_blk; focus ((repeat' first | exact Pick.here | apply Pick.skip | apply Pick.app); done); focus rfl) | (apply en_own; focus ((repeat' first | exact Pick.here | apply Pick.skip | apply Pick.app); done); focus rfl) | (apply en_pick; focus ((repeat' first | exact Pick.here | apply Pick.skip | apply Pick.app); done)) | apply en_drop | apply en_app) <;> fail)), fun _ s => s, ?_⟩
    refine RS_e (RE_eff rfl rfl rfl (eff_call rfl (Put_ctr A16 _ c16 (lo.t.pts ++ hi.t.pts) p _ (Rc.own (flat_length _) hA16) (by rw [List.length_append]; omega) hk)) ?_); rintro _ _ ⟨A21, c21, rfl, hA21, rfl⟩; refine ⟨_, (by first | ((repeat first | exact fun _ s => s | apply en_keep | apply en_drop | apply en_app) <;> fail) | ((repeat first | exact en_refl | (apply en_blk; focus ((repeat' first | exact Pick.here | apply Pick.skip | apply Pick.app); done); focus rfl) | (apply en_own; focus ((repeat' first | exact Pick.here | apply Pick.skip | apply Pick.app); done); focus rfl) | (apply en_pick; focus ((repeat' first | exact Pick.here | apply Pick.skip | apply Pick.app); done)) | apply en_drop | apply en_app) <;> fail)), fun _ s => s, ?_⟩
    refine RS_m retB_noPanic rfl rfl rfl rfl (ev_assign rfl) ?_
    refine RS_nil ?_
    (repeat first | refine G_seq ?_ | refine G_skip ?_ | refine G_endblk ?_ | refine G_block ?_ | refine G_exit rfl ?_)
    exact G_ret (L' := own 39 3 A21 (putP p (lo.t.pts ++ hi.t.pts)).length c21 (flat (putP p (lo.t.pts ++ hi.t.pts))) :: L) rfl (.tmp rfl .nil) (by (repeat first | exact en_refl | (apply en_blk; focus ((repeat' first | exact Pick.here | apply Pick.skip | apply Pick.app); done); focus rfl) | (apply en_own; focus ((repeat' first | exact Pick.here | apply Pick.skip | apply Pick.app); done); focus rfl) | (apply en_pick; focus ((repeat' first | exact Pick.here | apply Pick.skip | apply Pick.app); done)) | apply en_drop | apply en_app) <;> fail) ⟨A21, c21, rfl, hA21, rfl⟩
theorem wrong_ctr (a p : Pt) (b b1 : Nat) (L : List HP) (h1 : Ld L ⟨b1, 0, none⟩ (.pointer (some ⟨b, 0, none⟩))) (hp : LdN L b (0 + 0) 3 [.int .i64 p.id, .int .i64 p.x, .int .i64 p.y]) :
    Ctr Try.prog 81 #[a.v, .pointer (some ⟨b1, 0, none⟩)] L fun v L' => v = .bool (und p a) ∧ L' = L := by
  refine Ctr_of (fn := Try.f81) (n := 10) Try.func81 rfl rfl rfl ?_
  intro g F
  (repeat first | refine G_seq ?_ | refine G_skip ?_ | refine G_endblk ?_ | refine G_block ?_ | refine G_exit rfl ?_)
  refine G_region ?_
  refine GO_eff rfl rfl (eff_box rfl) ?_; rintro _ _ ⟨b2, rfl, rfl⟩
  refine GO_q rfl rfl (ev_assign rfl) ?_
  refine GO_nil ?_
  (repeat first | refine G_seq ?_ | refine G_skip ?_ | refine G_endblk ?_ | refine G_block ?_ | refine G_exit rfl ?_)
  refine G_draw (.q 0 (.q 1 (.q 2 (.q 3 (.q 4 (.e 5 (.q 6 .nil))))))) (by kernel_rfl) (by kernel_rfl) ?_
  refine RS_q retB_noPanic rfl rfl rfl rfl (ev_load rfl (by repeat' first | exact Ld.blk rfl | assumption | apply Ld.skip | apply Ld.app)) ?_
  (first | refine RS_m retB_noPanic rfl rfl rfl rfl (ev_nilCheck rfl) ?_ | refine RS_m retB_noPanic rfl rfl rfl rfl (ev_nilCheckF (by simp) rfl) ?_)
  refine RS_m retB_noPanic rfl rfl rfl rfl (ev_fieldAddr rfl) ?_
  refine RS_q retB_noPanic rfl rfl rfl rfl (ev_loadN rfl (by repeat' first | exact LdN.blk rfl | assumption | apply LdN.skip | apply LdN.app)) ?_
  refine RS_q retB_noPanic rfl rfl rfl rfl (ev_loadN rfl (by repeat' first | exact LdN.blk rfl | assumption | apply LdN.skip | apply LdN.app)) ?_
  refine RS_e (RE_eff rfl rfl rfl (eff_call rfl (under_ctr p a _)) ?_); rintro _ _ ⟨rfl, rfl⟩; refine ⟨_, fun _ s => s, (by first | ((repeat first | exact fun _ s => s | apply en_keep | apply en_drop | apply en_app) <;> fail) | ((repeat first | exact en_refl | (apply en_blk; focus ((repeat' first | exact Pick.here | apply Pick.skip | apply Pick.app); done); focus rfl) | (apply en_own; focus ((repeat' first | exact Pick.here | apply Pick.skip | apply Pick.app); done); focus rfl) | (apply en_pick; focus ((repeat' first | exact Pick.here | apply Pick.skip | apply Pick.app); done)) | apply en_drop | apply en_app) <;> fail)), ?_⟩
  refine RS_m retB_noPanic rfl rfl rfl rfl (ev_assign rfl) ?_
  refine RS_nil ?_
  (repeat first | refine G_seq ?_ | refine G_skip ?_ | refine G_endblk ?_ | refine G_block ?_ | refine G_exit rfl ?_)
  refine G_ret rfl (.tmp rfl .nil) (by (repeat first | exact fun _ s => s | apply en_keep | apply en_drop | apply en_app) <;> fail) ⟨rfl, rfl⟩
theorem ahead_ctr (a s : Pt) (b b1 : Nat) (L : List HP) (h1 : Ld L ⟨b1, 0, none⟩ (.pointer (some ⟨b, 0, none⟩))) (hs : LdN L b 3 3 [.int .i64 s.id, .int .i64 s.x, .int .i64 s.y]) :
    Ctr Try.prog 85 #[a.v, .pointer (some ⟨b1, 0, none⟩)] L fun v L' => v = .bool (!beh a s) ∧ L' = L := by
  refine Ctr_of (fn := Try.f85) (n := 8) Try.func85 rfl rfl rfl ?_
  intro g F
  (repeat first | refine G_seq ?_ | refine G_skip ?_ | refine G_endblk ?_ | refine G_block ?_ | refine G_exit rfl ?_)
  refine G_region ?_
  refine GO_eff rfl rfl (eff_box rfl) ?_; rintro _ _ ⟨b2, rfl, rfl⟩
  refine GO_q rfl rfl (ev_assign rfl) ?_
  refine GO_nil ?_
  (repeat first | refine G_seq ?_ | refine G_skip ?_ | refine G_endblk ?_ | refine G_block ?_ | refine G_exit rfl ?_)
  refine G_region ?_
  refine GO_q rfl rfl (ev_load rfl (by repeat' first | exact Ld.blk rfl | assumption | apply Ld.skip | apply Ld.app)) ?_
  refine GO_q rfl rfl (ev_loadN rfl (by repeat' first | exact LdN.blk rfl | assumption | apply LdN.skip | apply LdN.app)) ?_
  refine GO_eff rfl rfl (eff_call rfl (nbehind_ctr a s b _ hs.skip.skip)) ?_; rintro _ _ ⟨rfl, rfl⟩
  refine GO_q rfl rfl (ev_not rfl) ?_
  refine GO_q rfl rfl (ev_assign rfl) ?_
  refine GO_nil ?_
  (repeat first | refine G_seq ?_ | refine G_skip ?_ | refine G_endblk ?_ | refine G_block ?_ | refine G_exit rfl ?_)
  refine G_ret rfl (.tmp rfl .nil) (by (repeat first | exact fun _ s => s | apply en_keep | apply en_drop | apply en_app) <;> fail) ⟨rfl, rfl⟩
theorem sound_ctr : ∀ (x : PA) (L : List HP), PIn L x → x.t.Ok → x.t.size ≤ 100000 → Ctr Try.prog 56 #[.pointer x.addr] L fun v L' => v = .bool true ∧ L' = L
  | .nil, L, _, _, _ => by
    refine Ctr_of (fn := Try.f56) (n := 71) Try.func56 rfl rfl rfl ?_
    intro g F
    (repeat first | refine G_seq ?_ | refine G_skip ?_ | refine G_endblk ?_ | refine G_block ?_ | refine G_exit rfl ?_)
    refine G_region ?_
    refine GO_eff rfl rfl (eff_box rfl) ?_; rintro _ _ ⟨b1, rfl, rfl⟩
    refine GO_q rfl rfl (ev_assign rfl) ?_
    refine GO_nil ?_
    (repeat first | refine G_seq ?_ | refine G_skip ?_ | refine G_endblk ?_ | refine G_block ?_ | refine G_exit rfl ?_)
    refine G_region ?_
    refine GO_q rfl rfl (ev_load rfl (by repeat' first | exact Ld.blk rfl | assumption | apply Ld.skip | apply Ld.app)) ?_
    (first | refine GO_q rfl rfl (ev_eqlNil rfl rfl) ?_ | refine GO_q rfl rfl (ev_eqlPtr rfl rfl) ?_)
    refine GO_nil ?_
    (repeat first | refine G_seq ?_ | refine G_skip ?_ | refine G_endblk ?_ | refine G_block ?_ | refine G_exit rfl ?_)
    refine G_cond_t rfl rfl ?_
    (repeat first | refine G_seq ?_ | refine G_skip ?_ | refine G_endblk ?_ | refine G_block ?_ | refine G_exit rfl ?_)
    refine G_region ?_
    refine GO_q rfl rfl (ev_assign rfl) ?_
    refine GO_nil ?_
    (repeat first | refine G_seq ?_ | refine G_skip ?_ | refine G_endblk ?_ | refine G_block ?_ | refine G_exit rfl ?_)
    refine G_ret rfl (.tmp rfl .nil) (by (repeat first | exact fun _ s => s | apply en_keep | apply en_drop | apply en_app) <;> fail) ⟨rfl, rfl⟩
  | .node b p s lo hi, L, hin, hOk, hsz => by
    have ih1 := fun L h => sound_ctr lo L h hOk.1 (by simp only [PA.t, PT.size] at hsz; omega)
    have ih2 := fun L h => sound_ctr hi L h hOk.2.1 (by simp only [PA.t, PT.size] at hsz; omega)
    have l1 := lo.t.pts_length
    have l2 := hi.t.pts_length
    simp only [PA.t, PT.size] at hsz
    have hz1 : lo.t.size ≤ 100000 := by omega
    have hz2 : hi.t.size ≤ 100000 := by omega
    obtain ⟨q1, q2, q3, q4, q5, q6, q7, q8, q9⟩ := hin.f
    have k1 : lo.t.pts.any (fun a => beh a s) = false := by
      rw [List.any_eq_false]; intro a ha; rw [hOk.2.2.1 a (lo.t.pts_perm.subset ha)]; simp
    have k2 : hi.t.pts.any (fun a => !beh a s) = false := by
      rw [List.any_eq_false]; intro a ha; rw [hOk.2.2.2.1 a (hi.t.pts_perm.subset ha)]; simp
    have k3 : lo.t.pts.any (fun a => und p a) = false := by
      rw [List.any_eq_false]; intro a ha; rw [und_asymm (hOk.2.2.2.2 a (List.mem_append.2 (.inl (lo.t.pts_perm.subset ha))))]; simp
    have k4 : hi.t.pts.any (fun a => und p a) = false := by
      rw [List.any_eq_false]; intro a ha; rw [und_asymm (hOk.2.2.2.2 a (List.mem_append.2 (.inr (hi.t.pts_perm.subset ha))))]; simp
    refine Ctr_of (fn := Try.f56) (n := 71) Try.func56 rfl rfl rfl ?_
    intro g F
    (repeat first | refine G_seq ?_ | refine G_skip ?_ | refine G_endblk ?_ | refine G_block ?_ | refine G_exit rfl ?_)
    refine G_region ?_
    refine GO_eff rfl rfl (eff_box rfl) ?_; rintro _ _ ⟨b1, rfl, rfl⟩
    refine GO_q rfl rfl (ev_assign rfl) ?_
    refine GO_nil ?_
    (repeat first | refine G_seq ?_ | refine G_skip ?_ | refine G_endblk ?_ | refine G_block ?_ | refine G_exit rfl ?_)
    refine G_region ?_
    refine GO_q rfl rfl (ev_load rfl (by repeat' first | exact Ld.blk rfl | assumption | apply Ld.skip | apply Ld.app)) ?_
    (first | refine GO_q rfl rfl (ev_eqlNil rfl rfl) ?_ | refine GO_q rfl rfl (ev_eqlPtr rfl rfl) ?_)
    refine GO_nil ?_
    (repeat first | refine G_seq ?_ | refine G_skip ?_ | refine G_endblk ?_ | refine G_block ?_ | refine G_exit rfl ?_)
    refine G_cond_f rfl rfl ?_
    (repeat first | refine G_seq ?_ | refine G_skip ?_ | refine G_endblk ?_ | refine G_block ?_ | refine G_exit rfl ?_)
    refine G_region ?_
    refine GO_q rfl rfl (ev_makeFunc rfl rfl) ?_
    refine GO_q rfl rfl (ev_assign rfl) ?_
    refine GO_nil ?_
    (repeat first | refine G_seq ?_ | refine G_skip ?_ | refine G_endblk ?_ | refine G_block ?_ | refine G_exit rfl ?_)
    refine G_draw (.q 0 (.q 1 (.q 2 (.q 3 (.q 5 (.q 6 (.q 7 (.q 8 (.e 4 (.e 9 (.q 10 (.q 11 .nil)))))))))))) (by kernel_rfl) (by kernel_rfl) ?_
    refine RS_q retB_noPanic rfl rfl rfl rfl (ev_load rfl (by repeat' first | exact Ld.blk rfl | assumption | apply Ld.skip | apply Ld.app)) ?_
    (first | refine RS_m retB_noPanic rfl rfl rfl rfl (ev_nilCheck rfl) ?_ | refine RS_m retB_noPanic rfl rfl rfl rfl (ev_nilCheckF (by simp) rfl) ?_)
    refine RS_m retB_noPanic rfl rfl rfl rfl (ev_fieldAddr rfl) ?_
    refine RS_q retB_noPanic rfl rfl rfl rfl (ev_load rfl (by repeat' first | exact Ld.blk rfl | assumption | apply Ld.skip | apply Ld.app)) ?_
    refine RS_q retB_noPanic rfl rfl rfl rfl (ev_load rfl (by repeat' first | exact Ld.blk rfl | assumption | apply Ld.skip | apply Ld.app)) ?_
    (first | refine RS_m retB_noPanic rfl rfl rfl rfl (ev_nilCheck rfl) ?_ | refine RS_m retB_noPanic rfl rfl rfl rfl (ev_nilCheckF (by simp) rfl) ?_)
    refine RS_m retB_noPanic rfl rfl rfl rfl (ev_fieldAddr rfl) ?_
    refine RS_q retB_noPanic rfl rfl rfl rfl (ev_load rfl (by repeat' first | exact Ld.blk rfl | assumption | apply Ld.skip | apply Ld.app)) ?_
    refine RS_e (RE_eff rfl rfl rfl (eff_call rfl (rpoints_ctr lo _ hin.2.1.skip.skip hOk.1 hz1)) ?_); rintro _ _ ⟨A14, c14, rfl, hA14, rfl⟩; refine ⟨_, (by first | ((repeat first | exact fun _ s => s | apply en_keep | apply en_drop | apply en_app) <;> fail) | ((repeat first | exact en_refl | (apply en_blk; focus ((repeat' first | exact Pick.here | apply Pick.skip | apply Pick.app); done); focus rfl) | (apply en_own; focus ((repeat' first | exact Pick.here | apply Pick.skip | apply Pick.app); done); focus rfl) | (apply en_pick; focus ((repeat' first | exact Pick.here | apply Pick.skip | apply Pick.app); done)) | apply en_drop | apply en_app) <;> fail)), fun _ s => s, ?_⟩
    refine RS_e (RE_eff rfl rfl rfl (eff_call rfl (rpoints_ctr hi _ hin.2.2.skip.skip.skip hOk.2.1 hz2)) ?_); rintro _ _ ⟨A19, c19, rfl, hA19, rfl⟩; refine ⟨_, (by first | ((repeat first | exact fun _ s => s | apply en_keep | apply en_drop | apply en_app) <;> fail) | ((repeat first | exact en_refl | (apply en_blk; focus ((repeat' first | exact Pick.here | apply Pick.skip | apply Pick.app); done); focus rfl) | (apply en_own; focus ((repeat' first | exact Pick.here | apply Pick.skip | apply Pick.app); done); focus rfl) | (apply en_pick; focus ((repeat' first | exact Pick.here | apply Pick.skip | apply Pick.app); done)) | apply en_drop | apply en_app) <;> fail)), fun _ s => s, ?_⟩
    refine RS_m retB_noPanic rfl rfl rfl rfl (ev_assign rfl) ?_
    refine RS_m retB_noPanic rfl rfl rfl rfl (ev_assign rfl) ?_
    refine RS_nil ?_
    have r1 : ∀ X, Rd (X :: own 39 3 A14 lo.t.pts.length c14 (flat lo.t.pts) :: blk b1 67 (cellsL (.pointer (some ⟨b, 0, none⟩))) :: F :: L) A14 lo.t.pts.length lo.t.pts := fun X => Rd.skip (Rc.own (flat_length _) hA14)
    have r2 : ∀ X, Rd (own 39 3 A19 hi.t.pts.length c19 (flat hi.t.pts) :: X) A19 hi.t.pts.length hi.t.pts := fun X => Rc.own (flat_length _) hA19
    have hcell : Ld (own 39 3 A19 hi.t.pts.length c19 (flat hi.t.pts) :: own 39 3 A14 lo.t.pts.length c14 (flat lo.t.pts) :: blk b1 67 (cellsL (.pointer (some ⟨b, 0, none⟩))) :: F :: L) ⟨b1, 0, none⟩ (.pointer (some ⟨b, 0, none⟩)) := (Ld.blk rfl).skip.skip
    have hs5 : LdN L b 3 3 [.int .i64 s.id, .int .i64 s.x, .int .i64 s.y] := q5
    (repeat first | refine G_seq ?_ | refine G_skip ?_ | refine G_endblk ?_ | refine G_block ?_ | refine G_exit rfl ?_)
    refine G_region ?_
    refine GO_q rfl rfl (ev_move rfl) ?_
    refine GO_q rfl rfl (ev_load rfl (by repeat' first | exact Ld.blk rfl | assumption | apply Ld.skip | apply Ld.app)) ?_
    refine GO_q rfl rfl (ev_makeFunc rfl rfl) ?_
    refine GO_eff rfl rfl (eff_call rfl (ContainsFunc_ctr 84 [.pointer (some ⟨b, 0, none⟩)] [] (fun a => beh a s) A14 _ c14 lo.t.pts _ (r1 _) (by omega) (fun a => nbehind_ctr a s b _ hs5.skip.skip.skip.skip))) ?_; rintro _ _ ⟨rfl, rfl⟩
    refine GO_q rfl rfl (ev_not rfl) ?_
    refine GO_q rfl rfl (ev_move rfl) ?_
    refine GO_yes rfl rfl rfl (by rw [k1]; rfl) ?_
    refine GO_q rfl rfl (ev_move rfl) ?_
    refine GO_yes rfl rfl rfl (by rw [k1]; rfl) ?_
    refine GO_q rfl rfl (ev_makeFunc rfl rfl) ?_
    refine GO_yes rfl rfl rfl (by rw [k1]; rfl) ?_
    refine GO_eff rfl rfl (eff_call rfl (ContainsFunc_ctr 85 [] [.pointer (some ⟨b1, 0, none⟩)] (fun a => !beh a s) A19 _ c19 hi.t.pts _ (r2 _) (by omega) (fun a => ahead_ctr a s b b1 _ hcell hs5.skip.skip.skip.skip))) ?_; rintro _ _ ⟨rfl, rfl⟩
    refine GO_yes rfl rfl rfl (by rw [k1]; rfl) ?_
    refine GO_q rfl rfl (ev_not rfl) ?_
    refine GO_q rfl rfl (ev_pick_t rfl (by rw [k1]; rfl) rfl) ?_
    refine GO_q rfl rfl (ev_assign rfl) ?_
    refine GO_nil ?_
    have hp4 : LdN L b (0 + 0) 3 [.int .i64 p.id, .int .i64 p.x, .int .i64 p.y] := q4
    (repeat first | refine G_seq ?_ | refine G_skip ?_ | refine G_endblk ?_ | refine G_block ?_ | refine G_exit rfl ?_)
    refine G_region ?_
    refine GO_q rfl rfl (ev_move rfl) ?_
    refine GO_q rfl rfl (ev_move rfl) ?_
    refine GO_yes rfl rfl rfl (by rw [k2]; rfl) ?_
    refine GO_q rfl rfl (ev_move rfl) ?_
    refine GO_yes rfl rfl rfl (by rw [k2]; rfl) ?_
    refine GO_q rfl rfl (ev_move rfl) ?_
    refine GO_yes rfl rfl rfl (by rw [k2]; rfl) ?_
    refine GO_eff rfl rfl (eff_call rfl (ContainsFunc_ctr 81 [] [.pointer (some ⟨b1, 0, none⟩)] (fun a => und p a) A14 _ c14 lo.t.pts _ (r1 _) (by omega) (fun a => wrong_ctr a p b b1 _ hcell hp4.skip.skip.skip.skip))) ?_; rintro _ _ ⟨rfl, rfl⟩
    refine GO_yes rfl rfl rfl (by rw [k2]; rfl) ?_
    refine GO_q rfl rfl (ev_not rfl) ?_
    refine GO_q rfl rfl (ev_pick_t rfl (by rw [k2]; rfl) rfl) ?_
    refine GO_q rfl rfl (ev_move rfl) ?_
    refine GO_yes rfl rfl rfl (by rw [k3]; rfl) ?_
    refine GO_q rfl rfl (ev_move rfl) ?_
    refine GO_yes rfl rfl rfl (by rw [k3]; rfl) ?_
    refine GO_q rfl rfl (ev_move rfl) ?_
    refine GO_yes rfl rfl rfl (by rw [k3]; rfl) ?_
    refine GO_eff rfl rfl (eff_call rfl (ContainsFunc_ctr 81 [] [.pointer (some ⟨b1, 0, none⟩)] (fun a => und p a) A19 _ c19 hi.t.pts _ (r2 _) (by omega) (fun a => wrong_ctr a p b b1 _ hcell hp4.skip.skip.skip.skip))) ?_; rintro _ _ ⟨rfl, rfl⟩
    refine GO_yes rfl rfl rfl (by rw [k3]; rfl) ?_
    refine GO_q rfl rfl (ev_not rfl) ?_
    refine GO_q rfl rfl (ev_pick_t rfl (by rw [k3]; rfl) rfl) ?_
    refine GO_q rfl rfl (ev_move rfl) ?_
    refine GO_yes rfl rfl rfl (by rw [k4]; rfl) ?_
    refine GO_q rfl rfl (ev_load rfl (by repeat' first | exact Ld.blk rfl | assumption | apply Ld.skip | apply Ld.app)) ?_
    refine GO_yes rfl rfl rfl (by rw [k4]; rfl) ?_
    (first | refine GO_q rfl rfl (ev_nilCheck rfl) ?_ | refine GO_q rfl rfl (ev_nilCheckF (by simp) rfl) ?_)
    refine GO_yes rfl rfl rfl (by rw [k4]; rfl) ?_
    refine GO_q rfl rfl (ev_fieldAddr rfl) ?_
    refine GO_yes rfl rfl rfl (by rw [k4]; rfl) ?_
    refine GO_q rfl rfl (ev_load rfl (by repeat' first | exact Ld.blk rfl | assumption | apply Ld.skip | apply Ld.app)) ?_
    refine GO_yes rfl rfl rfl (by rw [k4]; rfl) ?_
    refine GO_q rfl rfl (ev_move rfl) ?_
    refine GO_yes rfl rfl rfl (by rw [k4]; rfl) ?_
    refine GO_q rfl rfl (ev_len rfl) ?_
    refine GO_yes rfl rfl rfl (by rw [k4]; rfl) ?_
    (first | refine GO_q rfl rfl (ev_addN (q := 1) rfl rfl (by first | omega | (simp; done) | (simp; omega))) ?_ | refine GO_q rfl rfl (ev_add rfl rfl (by first | omega | (simp; done) | (simp; omega))) ?_)
    refine GO_yes rfl rfl rfl (by rw [k4]; rfl) ?_
    refine GO_q rfl rfl (ev_move rfl) ?_
    refine GO_yes rfl rfl rfl (by rw [k4]; rfl) ?_
    refine GO_q rfl rfl (ev_len rfl) ?_
    refine GO_yes rfl rfl rfl (by rw [k4]; rfl) ?_
    (first | refine GO_q rfl rfl (ev_addN rfl rfl (by first | omega | (simp; done) | (simp; omega))) ?_ | refine GO_q rfl rfl (ev_add rfl rfl (by first | omega | (simp; done) | (simp; omega))) ?_)
    refine GO_yes rfl rfl rfl (by rw [k4]; rfl) ?_
    refine GO_q rfl rfl (ev_eql rfl rfl) ?_
    refine GO_q rfl rfl (ev_pick_t rfl (by rw [k4]; rfl) rfl) ?_
    refine GO_q rfl rfl (ev_move rfl) ?_
    refine GO_yes rfl rfl rfl (decide_eq_true (by omega)) ?_
    refine GO_q rfl rfl (ev_load rfl (by repeat' first | exact Ld.blk rfl | assumption | apply Ld.skip | apply Ld.app)) ?_
    refine GO_yes rfl rfl rfl (decide_eq_true (by omega)) ?_
    (first | refine GO_q rfl rfl (ev_nilCheck rfl) ?_ | refine GO_q rfl rfl (ev_nilCheckF (by simp) rfl) ?_)
    refine GO_yes rfl rfl rfl (decide_eq_true (by omega)) ?_
    refine GO_q rfl rfl (ev_fieldAddr rfl) ?_
    refine GO_yes rfl rfl rfl (decide_eq_true (by omega)) ?_
    refine GO_q rfl rfl (ev_load rfl (by repeat' first | exact Ld.blk rfl | assumption | apply Ld.skip | apply Ld.app)) ?_
    refine GO_yes rfl rfl rfl (decide_eq_true (by omega)) ?_
    refine GO_eff rfl rfl (eff_call rfl (ih1 _ hin.2.1.skip.skip.skip.skip)) ?_; rintro _ _ ⟨rfl, rfl⟩
    refine GO_q rfl rfl (ev_pick_t rfl (decide_eq_true (by omega)) rfl) ?_
    refine GO_q rfl rfl (ev_move rfl) ?_
    refine GO_yes rfl rfl rfl rfl ?_
    refine GO_q rfl rfl (ev_load rfl (by repeat' first | exact Ld.blk rfl | assumption | apply Ld.skip | apply Ld.app)) ?_
    refine GO_yes rfl rfl rfl rfl ?_
    (first | refine GO_q rfl rfl (ev_nilCheck rfl) ?_ | refine GO_q rfl rfl (ev_nilCheckF (by simp) rfl) ?_)
    refine GO_yes rfl rfl rfl rfl ?_
    refine GO_q rfl rfl (ev_fieldAddr rfl) ?_
    refine GO_yes rfl rfl rfl rfl ?_
    refine GO_q rfl rfl (ev_load rfl (by repeat' first | exact Ld.blk rfl | assumption | apply Ld.skip | apply Ld.app)) ?_
    refine GO_yes rfl rfl rfl rfl ?_
    refine GO_eff rfl rfl (eff_call rfl (ih2 _ hin.2.2.skip.skip.skip.skip)) ?_; rintro _ _ ⟨rfl, rfl⟩
    refine GO_q rfl rfl (ev_pick_t rfl rfl rfl) ?_
    refine GO_q rfl rfl (ev_assign rfl) ?_
    refine GO_nil ?_
    (repeat first | refine G_seq ?_ | refine G_skip ?_ | refine G_endblk ?_ | refine G_block ?_ | refine G_exit rfl ?_)
    exact G_ret (L' := L) rfl (.tmp rfl .nil) (by (repeat first | exact en_refl | (apply en_blk; focus ((repeat' first | exact Pick.here | apply Pick.skip | apply Pick.app); done); focus rfl) | (apply en_own; focus ((repeat' first | exact Pick.here | apply Pick.skip | apply Pick.app); done); focus rfl) | (apply en_pick; focus ((repeat' first | exact Pick.here | apply Pick.skip | apply Pick.app); done)) | apply en_drop | apply en_app) <;> fail) ⟨rfl, rfl⟩
theorem PCheck_ctr (b : Nat) (x : PA) (most : Int) (L : List HP) (h : LdN L b 0 2 (treeC x most)) (hx : PIn L x) (hok : x.t.Ok) (hbal : x.t.Bal) (hs : x.t.size ≤ 100000) (hm : (x.t.size : Int) ≤ most) :
    Ctr Try.prog 26 #[.pointer (some ⟨b, 0, none⟩)] L fun v L' => v = .bool true ∧ L' = L := by
  have h1 : Ld L ⟨b, 0 + 0, none⟩ (.pointer x.addr) := h.at_ (i := 0) rfl
  have h2 : Ld L ⟨b, 0 + 1, none⟩ (.int .i64 most) := h.at_ (i := 1) rfl
  have hd : x.t.depth ≤ bound x.t.size := by
    have h1 := PT.depth_bnd hbal
    unfold bound
    split
    · have : x.t.size = 0 := by omega
      rw [this, bnd1_zero] at h1
      exact h1
    · omega
  refine Ctr_of (fn := Try.f26) (n := 38) Try.func26 rfl rfl rfl ?_
  intro g F
  (repeat first | refine G_seq ?_ | refine G_skip ?_ | refine G_endblk ?_ | refine G_block ?_ | refine G_exit rfl ?_)
  refine G_region ?_
  refine GO_q rfl rfl (ev_assign rfl) ?_
  refine GO_nil ?_
  (repeat first | refine G_seq ?_ | refine G_skip ?_ | refine G_endblk ?_ | refine G_block ?_ | refine G_exit rfl ?_)
  refine G_draw (.q 0 (.q 1 (.q 2 (.q 3 (.q 4 (.q 5 (.q 6 (.e 7 (.q 8 (.q 9 (.q 10 (.q 11 (.q 12 (.q 13 (.q 15 (.q 16 (.q 17 (.q 18 (.e 14 (.e 19 (.e 20 (.q 21 (.q 22 (.q 23 (.q 24 (.q 25 (.q 26 (.q 27 (.q 29 (.q 30 (.q 31 (.q 32 (.e 28 (.q 33 (.q 34 (.q 35 .nil)))))))))))))))))))))))))))))))))))) (by kernel_rfl) (by kernel_rfl) ?_
  refine RS_m retB_noPanic rfl rfl rfl rfl (ev_move rfl) ?_
  (first | refine RS_m retB_noPanic rfl rfl rfl rfl (ev_neqNil rfl rfl) ?_ | refine RS_m retB_noPanic rfl rfl rfl rfl (ev_neqPtr rfl rfl) ?_)
  refine RS_m retB_noPanic rfl rfl rfl rfl (ev_move rfl) ?_
  refine RS_m_yes retB_noPanic rfl rfl rfl rfl ⟨_, rfl, rfl⟩ rfl (ev_move rfl) ?_
  (first | refine RS_m_yes retB_noPanic rfl rfl rfl rfl ⟨_, rfl, rfl⟩ rfl (ev_nilCheck rfl) ?_ | refine RS_m_yes retB_noPanic rfl rfl rfl rfl ⟨_, rfl, rfl⟩ rfl (ev_nilCheckF (by simp) rfl) ?_)
  refine RS_m_yes retB_noPanic rfl rfl rfl rfl ⟨_, rfl, rfl⟩ rfl (ev_fieldAddr rfl) ?_
  refine RS_q_yes retB_noPanic rfl rfl rfl rfl ⟨_, rfl, rfl⟩ rfl (ev_load rfl (by repeat' first | exact Ld.blk rfl | assumption | apply Ld.skip | apply Ld.app)) ?_
  refine RS_e (RE_eff_yes rfl rfl rfl ⟨_, rfl, rfl⟩ rfl (eff_call rfl (sound_ctr x _ hx.skip hok hs)) ?_); rintro _ _ ⟨rfl, rfl⟩; refine ⟨_, fun _ s => s, (by first | ((repeat first | exact fun _ s => s | apply en_keep | apply en_drop | apply en_app) <;> fail) | ((repeat first | exact en_refl | (apply en_blk; focus ((repeat' first | exact Pick.here | apply Pick.skip | apply Pick.app); done); focus rfl) | (apply en_own; focus ((repeat' first | exact Pick.here | apply Pick.skip | apply Pick.app); done); focus rfl) | (apply en_pick; focus ((repeat' first | exact Pick.here | apply Pick.skip | apply Pick.app); done)) | apply en_drop | apply en_app) <;> fail)), ?_⟩
  refine RS_m retB_noPanic rfl rfl rfl rfl (ev_pick_t rfl rfl rfl) ?_
  refine RS_m retB_noPanic rfl rfl rfl rfl (ev_move rfl) ?_
  refine RS_m_yes retB_noPanic rfl rfl rfl rfl ⟨_, rfl, rfl⟩ rfl (ev_move rfl) ?_
  (first | refine RS_m_yes retB_noPanic rfl rfl rfl rfl ⟨_, rfl, rfl⟩ rfl (ev_nilCheck rfl) ?_ | refine RS_m_yes retB_noPanic rfl rfl rfl rfl ⟨_, rfl, rfl⟩ rfl (ev_nilCheckF (by simp) rfl) ?_)
  refine RS_m_yes retB_noPanic rfl rfl rfl rfl ⟨_, rfl, rfl⟩ rfl (ev_fieldAddr rfl) ?_
  refine RS_q_yes retB_noPanic rfl rfl rfl rfl ⟨_, rfl, rfl⟩ rfl (ev_load rfl (by repeat' first | exact Ld.blk rfl | assumption | apply Ld.skip | apply Ld.app)) ?_
  refine RS_m_yes retB_noPanic rfl rfl rfl rfl ⟨_, rfl, rfl⟩ rfl (ev_move rfl) ?_
  (first | refine RS_m_yes retB_noPanic rfl rfl rfl rfl ⟨_, rfl, rfl⟩ rfl (ev_nilCheck rfl) ?_ | refine RS_m_yes retB_noPanic rfl rfl rfl rfl ⟨_, rfl, rfl⟩ rfl (ev_nilCheckF (by simp) rfl) ?_)
  refine RS_m_yes retB_noPanic rfl rfl rfl rfl ⟨_, rfl, rfl⟩ rfl (ev_fieldAddr rfl) ?_
  refine RS_q_yes retB_noPanic rfl rfl rfl rfl ⟨_, rfl, rfl⟩ rfl (ev_load rfl (by repeat' first | exact Ld.blk rfl | assumption | apply Ld.skip | apply Ld.app)) ?_
  refine RS_e (RE_eff_yes rfl rfl rfl ⟨_, rfl, rfl⟩ rfl (eff_call rfl (depth_ctr x _ hx.skip hs)) ?_); rintro _ _ ⟨rfl, rfl⟩; refine ⟨_, fun _ s => s, (by first | ((repeat first | exact fun _ s => s | apply en_keep | apply en_drop | apply en_app) <;> fail) | ((repeat first | exact en_refl | (apply en_blk; focus ((repeat' first | exact Pick.here | apply Pick.skip | apply Pick.app); done); focus rfl) | (apply en_own; focus ((repeat' first | exact Pick.here | apply Pick.skip | apply Pick.app); done); focus rfl) | (apply en_pick; focus ((repeat' first | exact Pick.here | apply Pick.skip | apply Pick.app); done)) | apply en_drop | apply en_app) <;> fail)), ?_⟩
  refine RS_e (RE_eff_yes rfl rfl rfl ⟨_, rfl, rfl⟩ rfl (eff_call rfl (rsize_ctr x _ hx.skip)) ?_); rintro _ _ ⟨rfl, rfl⟩; refine ⟨_, fun _ s => s, (by first | ((repeat first | exact fun _ s => s | apply en_keep | apply en_drop | apply en_app) <;> fail) | ((repeat first | exact en_refl | (apply en_blk; focus ((repeat' first | exact Pick.here | apply Pick.skip | apply Pick.app); done); focus rfl) | (apply en_own; focus ((repeat' first | exact Pick.here | apply Pick.skip | apply Pick.app); done); focus rfl) | (apply en_pick; focus ((repeat' first | exact Pick.here | apply Pick.skip | apply Pick.app); done)) | apply en_drop | apply en_app) <;> fail)), ?_⟩
  refine RS_e (RE_eff_yes rfl rfl rfl ⟨_, rfl, rfl⟩ rfl (eff_call rfl (bound_ctr x.t.size _ (by omega))) ?_); rintro _ _ ⟨rfl, rfl⟩; refine ⟨_, fun _ s => s, (by first | ((repeat first | exact fun _ s => s | apply en_keep | apply en_drop | apply en_app) <;> fail) | ((repeat first | exact en_refl | (apply en_blk; focus ((repeat' first | exact Pick.here | apply Pick.skip | apply Pick.app); done); focus rfl) | (apply en_own; focus ((repeat' first | exact Pick.here | apply Pick.skip | apply Pick.app); done); focus rfl) | (apply en_pick; focus ((repeat' first | exact Pick.here | apply Pick.skip | apply Pick.app); done)) | apply en_drop | apply en_app) <;> fail)), ?_⟩
  refine RS_m_yes retB_noPanic rfl rfl rfl rfl ⟨_, rfl, rfl⟩ rfl (ev_leq rfl rfl) ?_
  refine RS_m retB_noPanic rfl rfl rfl rfl (ev_pick_t rfl rfl rfl) ?_
  refine RS_m retB_noPanic rfl rfl rfl rfl (ev_move rfl) ?_
  refine RS_m_yes retB_noPanic rfl rfl rfl rfl ⟨_, rfl, (decide_eq_true (by omega))⟩ rfl (ev_move rfl) ?_
  (first | refine RS_m_yes retB_noPanic rfl rfl rfl rfl ⟨_, rfl, (decide_eq_true (by omega))⟩ rfl (ev_nilCheck rfl) ?_ | refine RS_m_yes retB_noPanic rfl rfl rfl rfl ⟨_, rfl, (decide_eq_true (by omega))⟩ rfl (ev_nilCheckF (by simp) rfl) ?_)
  refine RS_m_yes retB_noPanic rfl rfl rfl rfl ⟨_, rfl, (decide_eq_true (by omega))⟩ rfl (ev_fieldAddr rfl) ?_
  refine RS_q_yes retB_noPanic rfl rfl rfl rfl ⟨_, rfl, (decide_eq_true (by omega))⟩ rfl (ev_load rfl (by repeat' first | exact Ld.blk rfl | assumption | apply Ld.skip | apply Ld.app)) ?_
  refine RS_m_yes retB_noPanic rfl rfl rfl rfl ⟨_, rfl, (decide_eq_true (by omega))⟩ rfl (ev_move rfl) ?_
  (first | refine RS_m_yes retB_noPanic rfl rfl rfl rfl ⟨_, rfl, (decide_eq_true (by omega))⟩ rfl (ev_nilCheck rfl) ?_ | refine RS_m_yes retB_noPanic rfl rfl rfl rfl ⟨_, rfl, (decide_eq_true (by omega))⟩ rfl (ev_nilCheckF (by simp) rfl) ?_)
  refine RS_m_yes retB_noPanic rfl rfl rfl rfl ⟨_, rfl, (decide_eq_true (by omega))⟩ rfl (ev_fieldAddr rfl) ?_
  refine RS_q_yes retB_noPanic rfl rfl rfl rfl ⟨_, rfl, (decide_eq_true (by omega))⟩ rfl (ev_load rfl (by repeat' first | exact Ld.blk rfl | assumption | apply Ld.skip | apply Ld.app)) ?_
  refine RS_e (RE_eff_yes rfl rfl rfl ⟨_, rfl, (decide_eq_true (by omega))⟩ rfl (eff_call rfl (rsize_ctr x _ hx.skip)) ?_); rintro _ _ ⟨rfl, rfl⟩; refine ⟨_, fun _ s => s, (by first | ((repeat first | exact fun _ s => s | apply en_keep | apply en_drop | apply en_app) <;> fail) | ((repeat first | exact en_refl | (apply en_blk; focus ((repeat' first | exact Pick.here | apply Pick.skip | apply Pick.app); done); focus rfl) | (apply en_own; focus ((repeat' first | exact Pick.here | apply Pick.skip | apply Pick.app); done); focus rfl) | (apply en_pick; focus ((repeat' first | exact Pick.here | apply Pick.skip | apply Pick.app); done)) | apply en_drop | apply en_app) <;> fail)), ?_⟩
  refine RS_m_yes retB_noPanic rfl rfl rfl rfl ⟨_, rfl, (decide_eq_true (by omega))⟩ rfl (ev_leq rfl rfl) ?_
  refine RS_m retB_noPanic rfl rfl rfl rfl (ev_pick_t rfl (decide_eq_true (by omega)) rfl) ?_
  refine RS_m retB_noPanic rfl rfl rfl rfl (ev_assign rfl) ?_
  refine RS_nil ?_
  (repeat first | refine G_seq ?_ | refine G_skip ?_ | refine G_endblk ?_ | refine G_block ?_ | refine G_exit rfl ?_)
  refine G_ret rfl (.tmp rfl .nil) (by (repeat first | exact fun _ s => s | apply en_keep | apply en_drop | apply en_app) <;> fail) ⟨congrArg Value.bool (decide_eq_true hm), rfl⟩
theorem SCheck_ctr (b : Nat) (most : Int) (l : List Pt) (L : List HP) (hl : l.length ≤ 100000) (hm : (l.length : Int) ≤ most) : Ctr Try.prog 26 #[.pointer (some ⟨b, 0, none⟩)] (treeS b most l :: L) fun v L' => v = .bool true ∧ L' = treeS b most l :: L :=
  Ctr.tree0 (R := fun v => v = .bool true) fun x L' o h hx => PCheck_ctr b x most L' h hx o.ok o.bal (by rw [o.size]; exact hl) (by rw [o.size]; exact hm)
end Go.Proofs.Ytalcanejhniepaa
/- The references' sets of points: what lies in memory. -/
namespace Go.Proofs.Ytalcanejhniepaa
set_option linter.unusedVariables false
set_option linter.unusedSimpArgs false

/-- A set at a place. -/
def setS (b : Nat) (most : Int) (l : List Pt) : HP := fun h => ∃ x : Option Addr × Nat, (0 < l.length → ∃ b, x.1 = some ⟨b, 0, none⟩) ∧ sat [blk b 34 [.slice x.1 l.length x.2, .int .i64 most], own 39 3 x.1 l.length x.2 (flat l)] h
theorem Ctr.set {P : Program} {f : FuncId} {args : Array Value} {L : List HP} {b : Nat} {most : Int} {l : List Pt} {post : Value → List HP → Prop}
    (C : ∀ A c, (0 < l.length → ∃ b, A = some ⟨b, 0, none⟩) → l.length ≤ c → c ≤ maxLen → Ctr P f args (blk b 34 [.slice A l.length c, .int .i64 most] :: own 39 3 A l.length c (flat l) :: L) post) : Ctr P f args (setS b most l :: L) post := fun g F w hw => by
  obtain ⟨h1, h2, d, s1, s2, ⟨⟨A, c⟩, hA, q⟩, t⟩ := hw.s.swap
  have q0 := own.facts (L := []) q.tail
  have hs : sat ([blk b 34 [.slice A l.length c, .int .i64 most], own 39 3 A l.length c (flat l)] ++ (F :: L)) w.hm := sat.head (A := fun h => h = h1) (fun _ e => e ▸ q) ⟨h1, h2, d, s1, s2, rfl, t⟩
  exact C A c hA q0.2.1 q0.2.2.1 g F w ⟨hw.g, hs.perm (List.perm_middle (l₁ := [blk b 34 [.slice A l.length c, .int .i64 most], own 39 3 A l.length c (flat l)]))⟩
theorem en_set {L M : List HP} {b c : Nat} {A : Option Addr} {most : Int} {l : List Pt} (hA : 0 < l.length → ∃ b, A = some ⟨b, 0, none⟩) (f : ∀ h, sat L h → sat (blk b 34 [.slice A l.length c, .int .i64 most] :: own 39 3 A l.length c (flat l) :: M) h) : ∀ h, sat L h → sat (setS b most l :: M) h := fun h s =>
  sat.fold (N := [_, _]) (fun h q => ⟨(A, c), hA, q⟩) (f h s)
/-- A function that reads alone. -/
theorem Ctr.set0 {P : Program} {f : FuncId} {args : Array Value} {L : List HP} {b : Nat} {most : Int} {l : List Pt} {R : Value → Prop}
    (C : ∀ (A : Option Addr) (c : Nat) (L' : List HP), LdN L' b 0 2 [.slice A l.length c, .int .i64 most] → Rd L' A l.length l → Ctr P f args L' fun v L'' => R v ∧ L'' = L') : Ctr P f args (setS b most l :: L) fun v L' => R v ∧ L' = setS b most l :: L :=
  (Ctr.read (R := fun v X => R v ∧ X = []) (ι := Option Addr × Nat) (φ := fun x => 0 < l.length → ∃ b, x.1 = some ⟨b, 0, none⟩) (N := fun x => [blk b 34 [.slice x.1 l.length x.2, .int .i64 most], own 39 3 x.1 l.length x.2 (flat l)]) (fun _ h => h) (fun x hx h q => ⟨x, hx, q⟩)
    fun x hx => (C x.1 x.2 _ (LdN.blk rfl) (Rd.skip (Rc.own (flat_length l) hx))).mono fun v L' ⟨r, e⟩ => ⟨[], ⟨r, rfl⟩, e⟩).mono fun v L' ⟨X, ⟨r, e1⟩, e2⟩ => by subst e1; exact ⟨r, e2⟩
theorem Ctr.setM {P : Program} {f : FuncId} {args : Array Value} {L : List HP} {b : Nat} {most : Int} {l : List Pt} {T : TypeId} {α : Type} [E : Enc α] {m : List α}
    (C : ∀ (A : Option Addr) (c : Nat) (L' : List HP), LdN L' b 0 2 [.slice A l.length c, .int .i64 most] → Rd L' A l.length l → Ctr P f args L' fun v L'' => Made T m L' v L'') : Ctr P f args (setS b most l :: L) fun v L' => Made T m (setS b most l :: L) v L' :=
  (Ctr.read (R := fun v X => ∃ A c, v = .slice A m.length c ∧ (0 < m.length → ∃ b, A = some ⟨b, 0, none⟩) ∧ X = [own T E.sz A m.length c (flat m)]) (ι := Option Addr × Nat) (φ := fun x => 0 < l.length → ∃ b, x.1 = some ⟨b, 0, none⟩) (N := fun x => [blk b 34 [.slice x.1 l.length x.2, .int .i64 most], own 39 3 x.1 l.length x.2 (flat l)]) (fun _ h => h) (fun x hx h q => ⟨x, hx, q⟩)
    fun x hx => (C x.1 x.2 _ (LdN.blk rfl) (Rd.skip (Rc.own (flat_length l) hx))).mono fun v L' ⟨A, c, e1, e2, e3⟩ => ⟨_, ⟨A, c, e1, e2, rfl⟩, e3⟩).mono fun v L' ⟨X, ⟨A, c, e1, e2, e3⟩, e4⟩ => by subst e3; exact ⟨A, c, e1, e2, e4⟩
theorem idx_ne {a p : Pt} {l : List Pt} (e : a ≠ p) : (a :: l).idxOf p = l.idxOf p + 1 := by
  have : (a == p) = false := by simpa using e
  rw [List.idxOf_cons, this]; rfl
theorem idx_take (p : Pt) : ∀ (l : List Pt) (k : Nat), l[k]? = some p → p ∉ l.take k → l.idxOf p = k
  | [], k, h, _ => by simp at h
  | a :: l, 0, h, _ => by simp at h; subst h; simp
  | a :: l, k + 1, h, hn => by
    simp only [List.take_succ_cons, List.mem_cons, not_or] at hn
    rw [idx_ne (Ne.symm hn.1), idx_take p l k (by simpa using h) hn.2]
theorem erase_idx (p : Pt) : ∀ (l : List Pt), p ∈ l → l.take (l.idxOf p) ++ l.drop (l.idxOf p + 1) = l.erase p
  | [], h => by cases h
  | a :: l, h => by
    by_cases e : a = p
    · subst e; simp
    · rw [idx_ne e, List.erase_cons_tail (by simpa using e)]
      have := erase_idx p l ((List.mem_cons.1 h).resolve_left (fun h' => e h'.symm))
      simp only [List.take_succ_cons, List.drop_succ_cons, List.cons_append, this]
theorem treeS_perm {b : Nat} {most : Int} {l m : List Pt} (p : l.Perm m) {L M : List HP} (f : ∀ h, sat L h → sat (treeS b most l :: M) h) : ∀ h, sat L h → sat (treeS b most m :: M) h := fun h s =>
  sat.fold (N := [_]) (fun h q => by
    obtain ⟨h1, h2, d, s1, s2, ⟨x, o, q⟩, z⟩ := q
    exact ⟨x, o.congr p, q.up s1⟩) (f h s)
end Go.Proofs.Ytalcanejhniepaa
