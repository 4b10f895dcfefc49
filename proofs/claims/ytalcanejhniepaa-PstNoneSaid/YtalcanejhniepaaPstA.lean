/- Trees that are heaps by Y, with where each node lies: what those lean on that read alone. -/
import Derived.Test.YtalcanejhniepaaPst6
namespace Go.Proofs.Ytalcanejhniepaa
set_option linter.unusedVariables false
set_option linter.unusedSimpArgs false

instance : Enc (Option Addr) := ⟨1, fun a => [.pointer a], fun _ => rfl, fun _ v h => by simp at h; subst h; rfl⟩
theorem LdN.sub {L : List HP} {b o n : Nat} {vs ws : List Value} (h : LdN L b o n vs) (k m : Nat) (e : takeE (dropE vs k) m = some ws) : LdN L b (o + k) m ws :=
  ⟨(takeE_get e).1, fun j v hj => by
    have h1 := (takeE_get e).2 j v hj
    rw [dropE_eq, List.getElem?_drop] at h1
    rw [Nat.add_assoc]
    exact h.2 _ _ h1⟩
theorem Ld.of {A : HP} {N L : List HP} {a : Addr} {v : Value} (f : ∀ h, A h → sat N h) (l : Ld N a v) : Ld (A :: L) a v := ⟨fun h s => by
  obtain ⟨h1, h2, d, s1, s2, x, t⟩ := s
  exact cellOf.sub (l.1 _ (f _ x)) s1⟩
theorem LdN.of {A : HP} {N L : List HP} {b o n : Nat} {vs : List Value} (f : ∀ h, A h → sat N h) (l : LdN N b o n vs) : LdN (A :: L) b o n vs := ⟨l.1, fun j v hj => (l.2 j v hj).of f⟩
/-- A tree, and where its nodes lie. -/
inductive PA where
  | nil
  | node (b : Nat) (p s : Pt) (lo hi : PA)
def PA.addr : PA → Option Addr
  | .nil => none
  | .node b _ _ _ _ => some ⟨b, 0, none⟩
def PA.t : PA → PT
  | .nil => .nil
  | .node _ p s lo hi => .node p s lo.t hi.t
def paH : PA → HP
  | .nil => fun _ => True
  | .node b p s lo hi => fun h => sat [blk b 100 (nodeC p s lo.addr hi.addr (lo.t.size + 1 + hi.t.size)), paH lo, paH hi] h
def PIn (L : List HP) : PA → Prop
  | .nil => True
  | .node b p s lo hi => LdN L b 0 9 (nodeC p s lo.addr hi.addr (lo.t.size + 1 + hi.t.size)) ∧ PIn L lo ∧ PIn L hi
theorem PIn.mono {L M : List HP} (f : ∀ h, sat M h → sat L h) : ∀ {x : PA}, PIn L x → PIn M x
  | .nil, _ => trivial
  | .node b p s lo hi, h => ⟨h.1.mono f, h.2.1.mono f, h.2.2.mono f⟩
theorem PIn.skip {X : HP} {L : List HP} {x : PA} (h : PIn L x) : PIn (X :: L) x := h.mono fun _ s => s.tail
theorem PIn.app {N L : List HP} {x : PA} (h : PIn L x) : PIn (N ++ L) x := by
  induction N with
  | nil => exact h
  | cons X N ih => exact ih.skip
theorem PIn.of {A : HP} {N L : List HP} (f : ∀ h, A h → sat N h) : ∀ {x : PA}, PIn N x → PIn (A :: L) x
  | .nil, _ => trivial
  | .node b p s lo hi, h => ⟨h.1.of f, h.2.1.of f, h.2.2.of f⟩
theorem paH_in : ∀ (x : PA) (L : List HP), PIn (paH x :: L) x
  | .nil, _ => trivial
  | .node b p s lo hi, L => PIn.of (N := [blk b 100 (nodeC p s lo.addr hi.addr (lo.t.size + 1 + hi.t.size)), paH lo, paH hi]) (fun _ h => h) ⟨LdN.blk rfl, (paH_in lo _).skip, (paH_in hi []).skip.skip⟩
theorem ptH_open : ∀ (t : PT) (a : Option Addr) (h : Hm), ptH t a h → ∃ x : PA, x.t = t ∧ x.addr = a ∧ paH x h
  | .nil, a, h, e => ⟨.nil, rfl, Eq.symm e, trivial⟩
  | .node p s lo hi, a, h, ⟨⟨b, al, ah⟩, e, h1, h2, d, s1, s2, q, k1, k2, d2, t1, t2, ql, j1, j2, d3, u1, u2, qh, z⟩ => by
    obtain ⟨x, rfl, rfl, hx⟩ := ptH_open lo _ _ ql
    obtain ⟨y, rfl, rfl, hy⟩ := ptH_open hi _ _ qh
    exact ⟨.node b p s x y, rfl, e.symm, h1, h2, d, s1, s2, q, k1, k2, d2, t1, t2, hx, j1, j2, d3, u1, u2, hy, z⟩
theorem paH_close : ∀ (x : PA) (h : Hm), paH x h → ptH x.t x.addr h
  | .nil, _, _ => rfl
  | .node b p s lo hi, h, ⟨h1, h2, d, s1, s2, q, k1, k2, d2, t1, t2, ql, j1, j2, d3, u1, u2, qh, z⟩ =>
    ⟨(b, lo.addr, hi.addr), rfl, h1, h2, d, s1, s2, q, k1, k2, d2, t1, t2, paH_close lo _ ql, j1, j2, d3, u1, u2, paH_close hi _ qh, z⟩
theorem en_pa {L M : List HP} {x : PA} {t : PT} {a : Option Addr} (h1 : x.t = t) (h2 : x.addr = a) (f : ∀ h, sat L h → sat (paH x :: M) h) : ∀ h, sat L h → sat (ptH t a :: M) h := fun h s => by
  subst h1 h2
  exact sat.head (N := [ptH x.t x.addr]) (fun h q => sat.one (paH_close x h q)) (f h s)
theorem Ctr.pa {P : Program} {f : FuncId} {args : Array Value} {L : List HP} {t : PT} {a : Option Addr} {post : Value → List HP → Prop} (h : ∀ x : PA, x.t = t → x.addr = a → Ctr P f args (paH x :: L) post) : Ctr P f args (ptH t a :: L) post := fun g F w hw => by
  obtain ⟨h1, h2, d, s1, s2, q, l⟩ := hw.s.swap
  obtain ⟨x, e1, e2, hx⟩ := ptH_open t a _ q
  exact h x e1 e2 g F w ⟨hw.g, sat.swap ⟨h1, h2, d, s1, s2, hx, l⟩⟩
structure PF (L : List HP) (b : Nat) (p s : Pt) (lo hi : PA) : Prop where
  f_lo : Ld L ⟨b, 0 + 6, none⟩ (.pointer lo.addr)
  f_hi : Ld L ⟨b, 0 + 7, none⟩ (.pointer hi.addr)
  f_n : Ld L ⟨b, 0 + 8, none⟩ (.int .i64 (lo.t.size + 1 + hi.t.size : Nat))
  f_p : LdN L b (0 + 0) 3 [.int .i64 p.id, .int .i64 p.x, .int .i64 p.y]
  f_s : LdN L b (0 + 3) 3 [.int .i64 s.id, .int .i64 s.x, .int .i64 s.y]
  f_pid : Ld L ⟨b, 0 + 0 + 0, none⟩ (.int .i64 p.id)
  f_px : Ld L ⟨b, 0 + 0 + 1, none⟩ (.int .i64 p.x)
  f_py : Ld L ⟨b, 0 + 0 + 2, none⟩ (.int .i64 p.y)
  f_sx : Ld L ⟨b, 0 + 3 + 1, none⟩ (.int .i64 s.x)
theorem PIn.f {L : List HP} {b : Nat} {p s : Pt} {lo hi : PA} (h : PIn L (.node b p s lo hi)) : PF L b p s lo hi :=
  have hp := h.1.sub 0 3 rfl
  have hs := h.1.sub 3 3 rfl
  ⟨h.1.at_ (i := 6) rfl, h.1.at_ (i := 7) rfl, h.1.at_ (i := 8) rfl, hp, hs, hp.at_ (i := 0) rfl, hp.at_ (i := 1) rfl, hp.at_ (i := 2) rfl, hs.at_ (i := 1) rfl⟩
end Go.Proofs.Ytalcanejhniepaa
