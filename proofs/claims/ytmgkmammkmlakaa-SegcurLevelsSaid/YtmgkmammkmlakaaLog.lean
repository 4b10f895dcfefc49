/- A walk over what slots and parts of the heap hold. No program stands in this text. -/
import Derived.Test.YtmgkmammkmlakaaSep
import Derived.OrdersHeld
import Derived.OrdersIn
import Derived.TacticsIn
namespace Go.Proofs.Ytmgkmammkmlakaa
open Go.RowKit

/-- What some slots hold; the first one that is told of a slot counts. -/
abbrev Env := List (Nat × Value)
def Env.get : Env → Nat → Option Value
  | [], _ => none
  | (s, v) :: σ, t => bif Nat.beq s t then some v else Env.get σ t
def ev (σ : Env) : Operand → Option Value
  | .tmp t => σ.get t
  | .const v => some v
  | .global g => some (.pointer (some ⟨g, 0, none⟩))
  | .func f => some (.func (.func f) #[] #[])
def SatE (σ : Env) (a : Act) : Prop := ∀ t v, σ.get t = some v → a.tmps[t]? = some v
theorem SatE.eval {σ : Env} {a : Act} (h : SatE σ a) {x : Operand} {v : Value} (e : ev σ x = some v) : a.eval x = v := by
  cases x with
  | tmp t =>
    have := h t v e
    simp only [Act.eval, Array.getD_eq_getD_getElem?, this, Option.getD_some]
  | const u => exact Option.some.inj e
  | global g => exact Option.some.inj e
  | func f => exact Option.some.inj e
theorem SatE.cons {σ : Env} {a : Act} (h : SatE σ a) {t : Nat} {v : Value} (e : a.tmps[t]? = some v) : SatE ((t, v) :: σ) a := by
  intro s u hs
  simp only [Env.get] at hs
  cases hb : Nat.beq t s with
  | true => rw [hb] at hs; rw [← Nat.eq_of_beq_eq_true hb]; rw [e]; simpa using hs
  | false => rw [hb] at hs; exact h s u (by simpa using hs)
theorem SatE.put {σ : Env} {a : Act} (h : SatE σ a) {t : Nat} (v : Value) (ht : t < a.tmps.size) : SatE ((t, v) :: σ) (a.put (some t) v) := by
  intro s u hs
  simp only [Env.get] at hs
  show (a.tmps.setIfInBounds t v)[s]? = _
  rw [Array.getElem?_setIfInBounds]
  cases hb : Nat.beq t s with
  | true =>
    have e := Nat.eq_of_beq_eq_true hb
    rw [hb] at hs
    rw [if_pos e, if_pos ht]; simpa using hs
  | false =>
    rw [hb] at hs
    rw [if_neg (Nat.ne_of_beq_eq_false hb)]
    exact h s u (by simpa using hs)
/-- A list of slots is told in another one. -/
def envSub (σ : Env) : Env → Prop
  | [] => True
  | (t, v) :: τ => σ.get t = some v ∧ envSub σ τ
theorem SatE.sub {σ τ : Env} {a : Act} (h : SatE σ a) (s : envSub σ τ) : SatE τ a := by
  induction τ with
  | nil => intro t v e; cases e
  | cons p τ ih => exact (ih s.2).cons (h _ _ s.1)

structure Sat (g : Glob) (n : Nat) (σ : Env) (a : Act) : Prop where
  size : a.tmps.size = n
  defers : a.defers = g.dfs
  e : SatE σ a
theorem Sat.put {g : Glob} {n : Nat} {σ : Env} {a : Act} (h : Sat g n σ a) {t : Nat} (v : Value) (ht : Nat.blt t n = true) : Sat g n ((t, v) :: σ) (a.put (some t) v) :=
  ⟨by simp [Act.put, h.size], h.defers, h.e.put v (by rw [h.size]; exact Nat.le_of_ble_eq_true ht)⟩
theorem Sat.sub {g : Glob} {n : Nat} {σ τ : Env} {a : Act} (h : Sat g n σ a) (s : envSub σ τ) : Sat g n τ a := ⟨h.size, h.defers, h.e.sub s⟩

/-! Operations. -/
/-- It yields a value, and does nothing else. -/
def Ev (P : Program) (L : List HP) (σ : Env) (o : Oper) (v : Value) : Prop :=
  ∀ a w, SatE σ a → sat L w.hm → (execOp a.eval o).run P w = .ok (.value v) w
/-- It yields a value, and may turn what is told of the heap. -/
def Eff (P : Program) (g : Glob) (L : List HP) (σ : Env) (o : Oper) (post : Value → List HP → Prop) : Prop :=
  ∀ a w, SatE σ a → Hp g L w → ∀ (K : Act → World → Prop) (Q : Exit → Act → World → Prop),
    (∀ v w' L', post v L' → Hp g L' w' → K (a.put o.dst v) w') → o.wp P a w K Q
theorem Ev.eff {P : Program} {g : Glob} {L : List HP} {σ : Env} {o : Oper} {v : Value} (h : Ev P L σ o v) : Eff P g L σ o fun u L' => u = v ∧ L' = L := by
  intro a w hs hw K Q hK
  unfold Oper.wp
  rw [h a w hs hw.s]
  exact hK v w L ⟨rfl, rfl⟩ hw

/-- A function's contract: what it asks of the heap, and leaves; of all else (F) it touches nothing. -/
def Ctr (P : Program) (f : FuncId) (args : Array Value) (L : List HP) (post : Value → List HP → Prop) : Prop :=
  ∀ g F w, Hp g (F :: L) w → Calls P f args w fun e w' => ∃ v L', e = .returned v ∧ post v L' ∧ Hp g (F :: L') w'
theorem Ctr.mono {P : Program} {f : FuncId} {args : Array Value} {L : List HP} {post post' : Value → List HP → Prop} (h : Ctr P f args L post) (hp : ∀ v L', post v L' → post' v L') : Ctr P f args L post' :=
  fun g F w hw => (h g F w hw).mono fun _ _ ⟨v, L', e, p, q⟩ => ⟨v, L', e, hp _ _ p, q⟩
theorem sat.join {N L : List HP} {h : Hm} (s : sat (N ++ L) h) : sat ((fun h => sat N h) :: L) h := s.fold fun _ n => n
theorem sat.part {N L : List HP} {h : Hm} (s : sat ((fun h => sat N h) :: L) h) : sat (N ++ L) h := s.head fun _ n => n
theorem Ctr.frame {P : Program} {f : FuncId} {args : Array Value} {L M : List HP} {post : Value → List HP → Prop} (Fr : List HP) (h : Ctr P f args L post) (hL : ∀ h, sat M h → sat (Fr ++ L) h) : Ctr P f args M fun v L' => ∃ L1, post v L1 ∧ L' = Fr ++ L1 := by
  intro g F w hw
  have h1 : Hp g ((fun h => sat (F :: Fr) h) :: L) w := hw.mono fun k s => sat.join (N := F :: Fr) (s.cons_mono hL)
  refine (h g _ w h1).mono fun e w' ⟨v, L', e1, p, q⟩ => ⟨v, _, e1, ⟨L', p, rfl⟩, q.mono fun k s => sat.part (N := F :: Fr) s⟩

/-! What is still to be done. -/
/-- Whatever frames, in a round or in none. -/
def fnc (r : Option Nat) : Fence := { Fence.wide with round := r }
/-! An operation in whatever frame. -/
theorem Oper.wp_in {r : Option Nat} {P : Program} {o : Oper} {a : Act} {w : World} {K : Act → World → Prop} {Q : Exit → Act → World → Prop} (hd : ∀ c, o.op ≠ .defer c) (h : o.wp P a w K Q) : o.wpIn (fnc r) 0 P a w K Q := by
  refine ⟨fun _ _ => trivial, ?_⟩
  rw [Oper.semAt_eq _ _ _ hd]
  unfold Oper.wp at h
  generalize (execOp a.eval o).run P w = x at h ⊢
  cases x with
  | ok x w' =>
    cases x with
    | value v => exact h
    | skip => exact h
    | defer d => exact h
    | enter f args => exact ⟨(fun e => by cases e), (callsIn_wide (n := 0)).2 h⟩
    | row row args =>
      refine ⟨(fun e => by cases e), fun c cs _ => ?_⟩
      obtain ⟨v, w'', h1, h2⟩ := h c cs
      exact ⟨v, w'', h1, stepsIn_wide.2 h2⟩
    | _ => exact h.elim
  | halt x w' =>
    cases x with
    | panic v => exact h
    | _ => exact h.elim
theorem Eff.no_defer {P : Program} {g : Glob} {L : List HP} {σ : Env} {o : Oper} {post : Value → List HP → Prop} (he : Eff P g L σ o post) {a : Act} {w : World} (hs : SatE σ a) (hw : Hp g L w) : ∀ c, o.op ≠ .defer c := fun c hc => by
  have h := he a w hs hw (fun a' _ => a'.defers = a.defers) (fun _ _ _ => False) (fun v w' L' _ _ => by cases o.dst <;> rfl)
  unfold Oper.wp at h
  have e : execOp a.eval o = (do pure (.defer (← resolve a.eval c o.type)) : Sem Next) := by
    unfold execOp
    rw [hc]
  rw [e] at h
  simp only [Sem.run_bind] at h
  generalize (resolve a.eval c o.type).run P w = x at h
  cases x with
  | ok d w' =>
    simp only [Result.andThen_ok, Sem.run_pure] at h
    have h' : (({ a with defers := d :: a.defers } : Act).put o.dst undef).defers = a.defers := h
    have h2 : (({ a with defers := d :: a.defers } : Act).put o.dst undef).defers = d :: a.defers := by cases o.dst <;> rfl
    rw [h2] at h'
    exact absurd (congrArg List.length h') (by simp)
  | halt x w' => cases x <;> exact h
theorem Eff.in_ {r : Option Nat} {P : Program} {g : Glob} {L : List HP} {σ : Env} {o : Oper} {post : Value → List HP → Prop} (he : Eff P g L σ o post) {a : Act} {w : World} (hs : SatE σ a) (hw : Hp g L w) {K : Act → World → Prop} {Q : Exit → Act → World → Prop}
    (h : ∀ v w' L', post v L' → Hp g L' w' → K (a.put o.dst v) w') : o.wpIn (fnc r) 0 P a w K Q := Oper.wp_in (he.no_defer hs hw) (he a w hs hw K Q h)
/-- None of them is put off to the end. -/
def noDefL (l : List Oper) : Bool := l.all fun o => match o.op with | .defer _ => false | _ => true
theorem noDefL_spec {l : List Oper} (h : noDefL l = true) {i : Nat} {o : Oper} (ho : l.toArray[i]? = some o) : ∀ c, o.op ≠ .defer c := fun c hc => by
  have h1 := List.all_eq_true.1 h o (List.mem_of_getElem? (by simpa using ho))
  rw [hc] at h1
  cases h1
theorem wpAny_in {r : Option Nat} {P : Program} {l : List Oper} {Q : Exit → Act → World → Prop} (hd : noDefL l = true) (hno : ¬ LetsOut Q) : ∀ (fuel : Nat) (listed : Array Bool) (a : Act) (w : World), wpAny P .any l.toArray Q fuel listed a w → wpAnyIn (fnc r) 0 P .any l.toArray Q fuel listed a w
  | 0, _, _, _, h => h
  | fuel + 1, listed, a, w, h => ⟨h.1, fun i hi => by
    have h1 := wpOp_mono (K' := wpAnyIn (fnc r) 0 P .any l.toArray Q fuel (listed.setIfInBounds i true)) (fun a' w' h' => wpAny_in hd hno fuel _ a' w' h') (h.2 i hi)
    unfold wpOp at h1
    unfold wpOpIn
    split
    · rename_i e
      simpa [e] using h1
    · rename_i o e
      simp only [e] at h1
      split
      · rename_i hw
        rw [if_pos hw] at h1
        exact Oper.wp_in (noDefL_spec hd e) (h1.resolve_right fun h => hno h.2)
      · rename_i hw
        rw [if_neg hw] at h1
        exact ⟨fun _ _ => trivial, h1⟩⟩

inductive Kt where
  | code (c : Code)
  | blk (id : Nat)
  | inv (I : Act → World → Prop)
def Kq (r : Option Nat) (P : Program) (B : Exit → Act → World → Prop) : List Kt → Exit → Act → World → Prop
  | _, .outgrown, _, _ => False
  | [], e, a, w => B e a w
  | .code c :: K, .normal, a, w => c.wpIn (fnc r) 0 P (Kq r P B K) a w
  | .code _ :: K, e, a, w => Kq r P B K e a w
  | .blk id :: K, .exit i, a, w => if i = id then Kq r P B K .normal a w else Kq r P B K (.exit i) a w
  | .blk _ :: K, e, a, w => Kq r P B K e a w
  | .inv I :: _, .normal, a, w => I a w
  | .inv _ :: K, e, a, w => Kq r P B K e a w
def unw (id : Nat) : List Kt → Option (List Kt)
  | [] => none
  | .blk i :: K => bif Nat.beq id i then some K else unw id K
  | .code _ :: K => unw id K
  | .inv _ :: K => unw id K
section
variable {r : Option Nat} {P : Program} {B : Exit → Act → World → Prop}
theorem Kq_exit {id : Nat} {a : Act} {w : World} : ∀ {K K' : List Kt}, unw id K = some K' → Kq r P B K' .normal a w → Kq r P B K (.exit id) a w
  | [], _, h, _ => by cases h
  | .blk i :: K, K', h, hk => by
    simp only [unw] at h
    simp only [Kq]
    cases hb : Nat.beq id i with
    | true =>
      rw [hb] at h
      have e : K = K' := by simpa using h
      rw [if_pos (Nat.eq_of_beq_eq_true hb), e]; exact hk
    | false =>
      rw [hb] at h
      rw [if_neg (Nat.ne_of_beq_eq_false hb)]
      exact Kq_exit (by simpa using h) hk
  | .code c :: K, K', h, hk => by simp only [Kq]; exact Kq_exit h hk
  | .inv I :: K, K', h, hk => by simp only [Kq]; exact Kq_exit h hk
theorem Kq_ret {a : Act} {w : World} : ∀ {K : List Kt}, B .ret a w → Kq r P B K .ret a w
  | [], h => h
  | .blk i :: K, h => by simp only [Kq]; exact Kq_ret h
  | .code c :: K, h => by simp only [Kq]; exact Kq_ret h
  | .inv I :: K, h => by simp only [Kq]; exact Kq_ret h
theorem Kq_in {K : List Kt} : ¬ LetsOut (Kq r P B K) := fun ⟨a, w, h⟩ => by
  cases K with
  | nil => exact h
  | cons k K => cases k <;> exact h
theorem Kq_code (c : Code) (K : List Kt) : Exit.then (c.wpIn (fnc r) 0 P (Kq r P B K)) (Kq r P B K) = Kq r P B (.code c :: K) := by
  funext e a w
  cases e <;> first | rfl | (cases K with | nil => rfl | cons k K => cases k <;> rfl)
theorem Kq_blk (id : Nat) (K : List Kt) : Exit.inBlock id (Kq r P B K) = Kq r P B (.blk id :: K) := by
  funext e a w
  cases e <;> first | rfl | (cases K with | nil => rfl | cons k K => cases k <;> rfl)
theorem Kq_inv (I : Act → World → Prop) (K : List Kt) : Exit.then I (Kq r P B K) = Kq r P B (.inv I :: K) := by
  funext e a w
  cases e <;> first | rfl | (cases K with | nil => rfl | cons k K => cases k <;> rfl)
end

section
variable {P : Program} {B : Exit → Act → World → Prop} {g : Glob} {n : Nat} {K : List Kt} {σ : Env} {L : List HP}

/-- The goal: from here on all goes well. -/
def G (P : Program) (B : Exit → Act → World → Prop) (g : Glob) (n : Nat) (K : List Kt) (σ : Env) (L : List HP) : Prop :=
  ∀ a w, Sat g n σ a → Hp g L w → Kq g.rnd P B K .normal a w

theorem G_seq {x y : Code} (h : G P B g n (.code x :: .code y :: K) σ L) : G P B g n (.code (.seq x y) :: K) σ L := fun a w hs hw => by
  show (Code.seq x y).wpIn (fnc g.rnd) 0 P _ a w
  refine wpIn_seq ?_
  rw [Kq_code]
  exact h a w hs hw
theorem G_block {id : Nat} {c : Code} (h : G P B g n (.code c :: .blk id :: K) σ L) : G P B g n (.code (.block id c) :: K) σ L := fun a w hs hw => by
  show (Code.block id c).wpIn (fnc g.rnd) 0 P _ a w
  refine wpIn_block ?_
  rw [Kq_blk]
  exact h a w hs hw
theorem G_endblk {id : Nat} (h : G P B g n K σ L) : G P B g n (.blk id :: K) σ L := fun a w hs hw => h a w hs hw
theorem G_skip (h : G P B g n K σ L) : G P B g n (.code .skip :: K) σ L := fun a w hs hw => wpIn_skip (h a w hs hw)
theorem G_label {l : Nat} (h : G P B g n K σ L) : G P B g n (.code (.label l) :: K) σ L := fun a w hs hw => wpIn_label (h a w hs hw)
theorem G_exit {id : Nat} {K' : List Kt} (e : unw id K = some K') (h : G P B g n K' σ L) : G P B g n (.code (.exit id) :: K) σ L := fun a w hs hw => wpIn_exit (Kq_exit e (h a w hs hw))
theorem G_cond {c : Operand} {x y : Code} {p : Prop} [Decidable p] (hc : ev σ c = some (.bool (decide p)))
    (ht : p → G P B g n (.code x :: K) σ L) (hf : ¬ p → G P B g n (.code y :: K) σ L) : G P B g n (.code (.cond c x y) :: K) σ L := fun a w hs hw => by
  show (Code.cond c x y).wpIn (fnc g.rnd) 0 P _ a w
  by_cases hp : p
  · exact wpIn_cond_true (by rw [hs.e.eval hc, decide_eq_true hp]) (ht hp a w hs hw)
  · exact wpIn_cond_false (by rw [hs.e.eval hc, decide_eq_false hp]) (hf hp a w hs hw)
theorem G_condB {c : Operand} {x y : Code} {b : Bool} (hc : ev σ c = some (.bool b))
    (ht : b = true → G P B g n (.code x :: K) σ L) (hf : b = false → G P B g n (.code y :: K) σ L) : G P B g n (.code (.cond c x y) :: K) σ L := fun a w hs hw => by
  show (Code.cond c x y).wpIn (fnc g.rnd) 0 P _ a w
  cases b with
  | true => exact wpIn_cond_true (hs.e.eval hc) (ht rfl a w hs hw)
  | false => exact wpIn_cond_false (hs.e.eval hc) (hf rfl a w hs hw)
theorem G_cond_t {c : Operand} {x y : Code} {b : Bool} (hc : ev σ c = some (.bool b)) (hb : b = true) (h : G P B g n (.code x :: K) σ L) : G P B g n (.code (.cond c x y) :: K) σ L :=
  G_condB hc (fun _ => h) (fun e => by rw [hb] at e; cases e)
theorem G_cond_f {c : Operand} {x y : Code} {b : Bool} (hc : ev σ c = some (.bool b)) (hb : b = false) (h : G P B g n (.code y :: K) σ L) : G P B g n (.code (.cond c x y) :: K) σ L :=
  G_condB hc (fun e => by rw [hb] at e; cases e) (fun _ => h)
/-- What is told is put otherwise. -/
theorem G_heap {L' : List HP} (f : ∀ h, sat L h → sat L' h) (h : G P B g n K σ L') : G P B g n K σ L := fun a w hs hw => h a w hs (hw.mono f)
theorem G_env {τ : Env} (s : envSub σ τ) (h : G P B g n K τ L) : G P B g n K σ L := fun a w hs hw => h a w (hs.sub s) hw
theorem G_perm {L' : List HP} (p : L.Perm L') (h : G P B g n K σ L') : G P B g n K σ L := G_heap (fun _ => sat.perm p) h
/-- The first part, and a fact about it, is opened. -/
theorem G_open {ι : Type} {A : HP} {N : ι → List HP} {F : ι → Prop} (f : ∀ h, A h → ∃ x, F x ∧ sat (N x) h) (h : ∀ x, F x → G P B g n K σ (N x ++ L)) : G P B g n K σ (A :: L) := fun a w hs hw => by
  obtain ⟨h1, h2, d, s1, s2, ha, hl⟩ := hw.s
  obtain ⟨x, fx, nx⟩ := f _ ha
  exact h x fx a w hs ⟨hw.g, sat.head (A := fun h => h = h1) (fun _ e => e ▸ nx) ⟨h1, h2, d, s1, s2, rfl, hl⟩⟩
theorem G_fold {A : HP} {N : List HP} (f : ∀ h, sat N h → A h) (h : G P B g n K σ (A :: L)) : G P B g n K σ (N ++ L) := G_heap (fun _ => sat.fold f) h

theorem least_of {p : Nat → Prop} : (∃ m, p m) → ∃ m, p m ∧ ∀ k, p k → m ≤ k := by
  rintro ⟨m, hm⟩
  induction m using Nat.strongRecOn with
  | _ m ih =>
    by_cases h : ∃ k, k < m ∧ p k
    · obtain ⟨k, hk, pk⟩ := h
      exact ih k hk pk
    · exact ⟨m, hm, fun k pk => Nat.le_of_not_lt fun hk => h ⟨k, hk, pk⟩⟩
/-- A loop: what holds at each round's head, and what every round lowers. -/
theorem G_loop {ι : Type} (τ : ι → Env) (M : ι → List HP) (F : ι → Prop) (μ : ι → Nat) (x0 : ι) (h0 : F x0) (hσ : envSub σ (τ x0)) (hL : ∀ h, sat L h → sat (M x0) h)
    {c : Code} (h : ∀ x, F x → G P B g n (.code c :: .inv (fun a w => ∃ y, F y ∧ μ y < μ x ∧ Sat g n (τ y) a ∧ Hp g (M y) w) :: K) (τ x) (M x)) : G P B g n (.code (.loop c) :: K) σ L := fun a w hs hw => by
  show (Code.loop c).wpIn (fnc g.rnd) 0 P _ a w
  classical
  let has : Act → World → Nat → Prop := fun a w m => ∃ x, F x ∧ Sat g n (τ x) a ∧ Hp g (M x) w ∧ μ x = m
  let ν : Act → World → Nat := fun a w => if hh : ∃ m, has a w m ∧ ∀ k, has a w k → m ≤ k then Classical.choose hh else 0
  refine wpIn_loop (fun a w => ∃ x, F x ∧ Sat g n (τ x) a ∧ Hp g (M x) w) ν ⟨x0, h0, hs.sub hσ, hw.mono hL⟩ ?_
  rintro a w ⟨x, fx, sx, wx⟩
  have hex : ∃ m, has a w m ∧ ∀ k, has a w k → m ≤ k := least_of ⟨μ x, x, fx, sx, wx, rfl⟩
  obtain ⟨⟨y, fy, sy, wy, ey⟩, _⟩ := Classical.choose_spec hex
  have e1 : ν a w = μ y := by
    show (if hh : ∃ m, has a w m ∧ ∀ k, has a w k → m ≤ k then Classical.choose hh else 0) = _
    rw [dif_pos hex]; exact ey.symm
  have h9 := h y fy a w sy wy
  have h8 : c.wpIn (fnc g.rnd) 0 P (Exit.then (fun a w => ∃ z, F z ∧ μ z < μ y ∧ Sat g n (τ z) a ∧ Hp g (M z) w) (Kq g.rnd P B K)) a w := by rw [Kq_inv]; exact h9
  refine Code.wpIn_mono (fun e a' w' q => ?_) h8
  cases e with
  | normal =>
    obtain ⟨z, fz, lz, sz, wz⟩ := q
    refine ⟨⟨z, fz, sz, wz⟩, ?_⟩
    have hz0 : has a' w' (μ z) := ⟨z, fz, sz, wz, rfl⟩
    have hz : ∃ m, has a' w' m ∧ ∀ k, has a' w' k → m ≤ k := least_of ⟨_, hz0⟩
    have : ν a' w' ≤ μ z := by
      show (if hh : ∃ m, has a' w' m ∧ ∀ k, has a' w' k → m ≤ k then Classical.choose hh else 0) ≤ _
      rw [dif_pos hz]; exact (Classical.choose_spec hz).2 _ hz0
    omega
  | _ => exact q
/-- Where a round, or a piece, ends. -/
theorem G_inv {ι : Type} {τ : ι → Env} {M : ι → List HP} {F : ι → Prop} (y : ι) (hf : F y) (hσ : envSub σ (τ y)) (hL : ∀ h, sat L h → sat (M y) h) :
    G P B g n (.inv (fun a w => ∃ y, F y ∧ Sat g n (τ y) a ∧ Hp g (M y) w) :: K) σ L := fun _ _ hs hw => ⟨y, hf, hs.sub hσ, hw.mono hL⟩
theorem G_round {ι : Type} {τ : ι → Env} {M : ι → List HP} {F : ι → Prop} {μ : ι → Nat} {m : Nat} (y : ι) (hf : F y) (hm : μ y < m) (hσ : envSub σ (τ y)) (hL : ∀ h, sat L h → sat (M y) h) :
    G P B g n (.inv (fun a w => ∃ y, F y ∧ μ y < m ∧ Sat g n (τ y) a ∧ Hp g (M y) w) :: K) σ L := fun _ _ hs hw => ⟨y, hf, hm, hs.sub hσ, hw.mono hL⟩
/-- A piece of code, and what holds behind it. -/
theorem G_cut {ι : Type} (τ : ι → Env) (M : ι → List HP) (F : ι → Prop) {c : Code}
    (h1 : G P B g n (.code c :: .inv (fun a w => ∃ y, F y ∧ Sat g n (τ y) a ∧ Hp g (M y) w) :: K) σ L) (h2 : ∀ y, F y → G P B g n K (τ y) (M y)) : G P B g n (.code c :: K) σ L := fun a w hs hw => by
  show c.wpIn (fnc g.rnd) 0 P _ a w
  have h9 := h1 a w hs hw
  have h8 : c.wpIn (fnc g.rnd) 0 P (Exit.then (fun a w => ∃ z, F z ∧ Sat g n (τ z) a ∧ Hp g (M z) w) (Kq g.rnd P B K)) a w := by rw [Kq_inv]; exact h9
  refine Code.wpIn_mono (fun e a' w' q => ?_) h8
  cases e with
  | normal => obtain ⟨z, fz, sz, wz⟩ := q; exact h2 z fz a' w' sz wz
  | _ => exact q

/-! A region whose order is laid down. -/
def GO (P : Program) (B : Exit → Act → World → Prop) (g : Glob) (n : Nat) (ops : Array Oper) (l : List Oper) (K : List Kt) (σ : Env) (L : List HP) : Prop :=
  ∀ a w, Sat g n σ a → Hp g L w → wpListIn (fnc g.rnd) 0 P ops (Kq g.rnd P B K) l a w
theorem G_region {id : Nat} {l : List Oper} (h : GO P B g n l.toArray l K σ L) : G P B g n (.code (.region id l.toArray false) :: K) σ L := fun a w hs hw =>
  wpIn_region_lit (h a w hs hw)
variable {ops : Array Oper} {l : List Oper}
theorem GO_nil (h : G P B g n K σ L) : GO P B g n ops [] K σ L := fun a w hs hw => h a w hs hw
def putE (σ : Env) : Option Nat → Value → Env
  | none, _ => σ
  | some t, v => (t, v) :: σ
def dstOk (n : Nat) : Option Nat → Bool
  | none => true
  | some t => Nat.blt t n
theorem Sat.put' {a : Act} (h : Sat g n σ a) {d : Option Nat} (v : Value) (hd : dstOk n d = true) : Sat g n (putE σ d v) (a.put d v) := by
  cases d with
  | none => exact h
  | some t => exact h.put v hd
theorem GO_eff {o : Oper} {post : Value → List HP → Prop} (hg : o.guard = none) (hd : dstOk n o.dst = true) (he : Eff P g L σ o post)
    (h : ∀ v L', post v L' → GO P B g n ops l K (putE σ o.dst v) L') : GO P B g n ops (o :: l) K σ L := fun a w hs hw => by
  refine wpListIn_plain hg fun Kx hK => ?_
  exact he.in_ hs.e hw fun v w' L' hp hw' => hK _ _ (h v L' hp _ _ (hs.put' v hd) hw')
theorem GO_q {o : Oper} {v : Value} (hg : o.guard = none) (hd : dstOk n o.dst = true) (he : Ev P L σ o v)
    (h : GO P B g n ops l K (putE σ o.dst v) L) : GO P B g n ops (o :: l) K σ L :=
  GO_eff hg hd he.eff fun u L' ⟨e1, e2⟩ => by subst e1 e2; exact h
theorem yielded_is {a : Act} (hs : SatE σ a) {j d : Nat} {b : Bool} (hj : (ops[j]?).bind (·.dst) = some d) (hd : σ.get d = some (.bool b)) : yielded ops a.tmps j = some b := by
  have := hs d _ hd
  simp [yielded, hj, this]
theorem GO_guard {dst : Option Nat} {op : Op} {ty : TypeId} {pos : String} {aft : Array Edge} {j d : Nat} {want b : Bool} (hj : (ops[j]?).bind (·.dst) = some d) (hd : σ.get d = some (.bool b)) (hdo : dstOk n dst = true)
    (h1 : b = want → GO P B g n ops (⟨dst, op, ty, pos, aft, none⟩ :: l) K σ L) (h2 : b = !want → GO P B g n ops l K (putE σ dst undef) L) :
    GO P B g n ops (⟨dst, op, ty, pos, aft, some (j, want)⟩ :: l) K σ L := fun a w hs hw => by
  have hy := yielded_is (ops := ops) hs.e hj hd
  unfold wpListIn
  simp only [Region.wanted, hy]
  by_cases hb : b = want
  · subst hb
    have := h1 rfl a w hs hw
    unfold wpListIn at this
    simp only [Region.wanted, if_true] at this
    simp only [beq_self_eq_true, if_true]
    exact this
  · have hb' : b = !want := by cases b <;> cases want <;> simp_all
    have := h2 hb' _ w (hs.put' undef hdo) hw
    rw [if_neg (by simp [hb])]
    exact ⟨fun _ _ => trivial, this⟩

theorem GO_yes {dst : Option Nat} {op : Op} {ty : TypeId} {pos : String} {aft : Array Edge} {j d : Nat} {want b : Bool} (hj : (ops[j]?).bind (·.dst) = some d) (hd : σ.get d = some (.bool b)) (hdo : dstOk n dst = true)
    (hb : b = want) (h1 : GO P B g n ops (⟨dst, op, ty, pos, aft, none⟩ :: l) K σ L) : GO P B g n ops (⟨dst, op, ty, pos, aft, some (j, want)⟩ :: l) K σ L :=
  GO_guard hj hd hdo (fun _ => h1) (fun e => by subst hb; cases b <;> cases e)
theorem GO_no {dst : Option Nat} {op : Op} {ty : TypeId} {pos : String} {aft : Array Edge} {j d : Nat} {want b : Bool} (hj : (ops[j]?).bind (·.dst) = some d) (hd : σ.get d = some (.bool b)) (hdo : dstOk n dst = true)
    (hb : b = !want) (h2 : GO P B g n ops l K (putE σ dst undef) L) : GO P B g n ops (⟨dst, op, ty, pos, aft, some (j, want)⟩ :: l) K σ L :=
  GO_guard hj hd hdo (fun e => by subst e; cases b <;> cases hb) (fun _ => h2)

theorem yielded_undef {a : Act} (hs : SatE σ a) {j d : Nat} (hj : (ops[j]?).bind (·.dst) = some d) (hd : σ.get d = some undef) : yielded ops a.tmps j = none := by
  have := hs d _ hd
  simp [yielded, hj, this, undef]
/-- Its guard was never asked. -/
theorem GO_undef {dst : Option Nat} {op : Op} {ty : TypeId} {pos : String} {aft : Array Edge} {j d : Nat} {want : Bool} (hj : (ops[j]?).bind (·.dst) = some d) (hd : σ.get d = some undef) (hdo : dstOk n dst = true)
    (h2 : GO P B g n ops l K (putE σ dst undef) L) : GO P B g n ops (⟨dst, op, ty, pos, aft, some (j, want)⟩ :: l) K σ L := fun a w hs hw => by
  have hy := yielded_undef (ops := ops) hs.e hj hd
  have := h2 _ w (hs.put' undef hdo) hw
  unfold wpListIn
  rw [if_neg (by simp [Region.wanted, hy])]
  exact ⟨fun _ _ => trivial, this⟩

/-! A region that draws its order. -/
def preds (ops : Array Oper) (i : Nat) : List Nat :=
  match ops[i]? with
  | none => []
  | some o => o.after.toList.filterMap fun e => if Region.binds .any e then some e.on else none
def reach (ops : Array Oper) : Nat → List Nat → List Nat
  | 0, F => F
  | k + 1, F => reach ops k ((F ++ F.flatMap (preds ops)).eraseDups)
/-- It looks at no memory. -/
def mvO (o : Oper) : Bool := match o.op with
  | .move _ | .assign _ | .pick _ _ _ | .nilCheck _ | .binOp _ _ _ _ _ | .unOp _ _ _ | .convert _ _ _ | .makeFunc _ _ _ | .fieldAddr _ _ _ | .field _ _ _ | .extract _ _ | .build _ _ | .indexAddr _ _ _ | .index _ _ _ => true
  | _ => false
def mvB (ops : Array Oper) (i : Nat) : Bool := match ops[i]? with
  | some o => mvO o
  | none => false
/-- Each other one comes ahead of it, or behind it, or looks at no memory, whatever the order. -/
def lastB (ops : Array Oper) (i : Nat) : Bool :=
  let r := reach ops 8 (preds ops i)
  (List.range ops.size).all fun k => Nat.beq k i || r.contains k || (reach ops 8 (preds ops k)).contains i || mvB ops k
def Closed (ops : Array Oper) (listed : Array Bool) : Prop := ∀ i, listed.getD i false = true → ∀ k ∈ preds ops i, listed.getD k false = true
theorem reach_listed {listed : Array Bool} (hc : Closed ops listed) : ∀ (k : Nat) (F : List Nat), (∀ i ∈ F, listed.getD i false = true) → ∀ i ∈ reach ops k F, listed.getD i false = true
  | 0, _, h => h
  | k + 1, F, h => reach_listed hc k _ fun i hi => by
    rw [List.mem_eraseDups, List.mem_append, List.mem_flatMap] at hi
    rcases hi with hi | ⟨j, hj, hi⟩
    · exact h i hi
    · exact hc j (h j hj) i hi
theorem preds_ready {listed : Array Bool} {i : Nat} (h : i ∈ Region.ready .any ops listed) : ∀ k ∈ preds ops i, listed.getD k false = true := by
  obtain ⟨_, o, ho, hall⟩ := mem_ready.1 h
  intro k hk
  simp only [preds, ho, List.mem_filterMap] at hk
  obtain ⟨e, he, hk⟩ := hk
  by_cases hb : Region.binds .any e = true
  · rw [if_pos hb] at hk
    rw [← Option.some.inj hk]
    exact hall e (by simpa using he) hb
  · rw [if_neg hb] at hk; cases hk
theorem Closed.step {listed : Array Bool} (hc : Closed ops listed) {i : Nat} (h : i ∈ Region.ready .any ops listed) : Closed ops (listed.setIfInBounds i true) := by
  intro j hj k hk
  by_cases hji : i = j
  · subst hji; exact getD_set_true (preds_ready h k hk)
  · rw [getD_set_ne false hji] at hj
    exact getD_set_true (hc j hj k hk)
theorem lastB_spec {listed : Array Bool} (hc : Closed ops listed) {i j : Nat} (h : i ∈ Region.ready .any ops listed) (h' : j ∈ Region.ready .any ops listed) (hl : lastB ops i = true) (hj : j < ops.size) (hne : j ≠ i) : mvB ops j = true := by
  simp only [lastB, List.all_eq_true, List.mem_range, Bool.or_eq_true, List.contains_iff_mem] at hl
  have no : ∀ {k : Nat}, k ∈ Region.ready .any ops listed → listed.getD k false = true → False := fun {k} hk h7 => by
    have h8 := (mem_ready.1 hk).1
    rcases Nat.lt_or_ge k listed.size with h9 | h9
    · simp [h9] at h7 h8; rw [h7] at h8; cases h8
    · simp [Array.getElem?_eq_none h9] at h7
  rcases hl j hj with ((h9 | h9) | h9) | h9
  · exact absurd (Nat.eq_of_beq_eq_true h9) hne
  · exact (no h' (reach_listed hc _ _ (preds_ready h) j h9)).elim
  · exact (no h (reach_listed hc _ _ (preds_ready h') i h9)).elim
  · exact h9

def wpAnyC (P : Program) (ops : Array Oper) (Q : Exit → Act → World → Prop) : (World → Prop) → Nat → Array Bool → Act → World → Prop
  | _, 0, listed, a, w => Region.ready .any ops listed = [] ∧ Q .normal a w
  | S, fuel + 1, listed, a, w =>
    (Region.ready .any ops listed = [] → Q .normal a w) ∧
    ∀ i ∈ Region.ready .any ops listed, wpOp P ops Q i (fun a' w' => (lastB ops i = true ∧ ∃ S2 : World → Prop, S2 w' ∧ wpAnyC P ops Q S2 fuel (listed.setIfInBounds i true) a' w') ∨ (S w' ∧ wpAnyC P ops Q S fuel (listed.setIfInBounds i true) a' w')) a w

section
variable {Q : Exit → Act → World → Prop} {S S' : World → Prop}
theorem wpAny_of_C : ∀ (fuel : Nat) (S : World → Prop) (listed : Array Bool) (a : Act) (w : World), wpAnyC P ops Q S fuel listed a w → wpAny P .any ops Q fuel listed a w
  | 0, _, _, _, _, h => h
  | fuel + 1, S, _, _, _, h => ⟨h.1, fun i hi => wpOp_mono (fun a' w' h' => by
    rcases h' with ⟨_, S2, _, h'⟩ | ⟨_, h'⟩
    · exact wpAny_of_C fuel S2 _ a' w' h'
    · exact wpAny_of_C fuel S _ a' w' h') (h.2 i hi)⟩
theorem wpAnyC_mono (hS : ∀ w, S' w → S w) : ∀ (fuel : Nat) (listed : Array Bool) (a : Act) (w : World), wpAnyC P ops Q S' fuel listed a w → wpAnyC P ops Q S fuel listed a w
  | 0, _, _, _, h => h
  | fuel + 1, _, _, _, h => ⟨h.1, fun i hi => wpOp_mono (fun a' w' h' => by
    rcases h' with h' | ⟨h1, h2⟩
    · exact .inl h'
    · exact .inr ⟨hS _ h1, wpAnyC_mono hS fuel _ a' w' h2⟩) (h.2 i hi)⟩

theorem wpAnyC_first {i : Nat} {oi : Oper} {v : Value} (hi : ops[i]? = some oi) (hsel : ∀ (j : Nat) (o : Oper) cs b, ops[j]? = some o → o.op ≠ .select cs b)
    (hQ : ∀ c a w, Q (.panic c) (a.put oi.dst v) w → Q (.panic c) a w) (Sy : World → Prop) (hmv : mvB ops i = true → ∀ w, Sy w) :
    ∀ (fuel : Nat) (S : World → Prop) (listed : Array Bool) (a : Act) (w : World), (∀ w, S w → Sy w) → Closed ops listed →
      (∀ j oj, ops[j]? = some oj → j ≠ i → listed.getD j true = false → (∀ e ∈ oj.after, Region.binds .any e = true → e.on ≠ i) → oi.apart ops oj = true) →
      i ∈ Region.ready .any ops listed → YieldsIf P ops Sy oi v a → S w →
      wpAnyC P ops Q S fuel (listed.setIfInBounds i true) (a.put oi.dst v) w → wpAnyC P ops Q S (fuel + 1) listed a w := by
  intro fuel
  induction fuel with
  | zero =>
    intro S listed a w hSy _ _ hr hy hS H
    refine ⟨fun h => (by rw [h] at hr; cases hr), fun j hj => ?_⟩
    by_cases hji : j = i
    · subst hji; exact hy.wpOp hi (hSy _ hS) (.inr ⟨hS, H⟩)
    · have := ready_mono hj hji
      rw [H.1] at this
      cases this
  | succ fuel ih =>
    intro S listed a w hSy hcl hfree hr hy hS H
    refine ⟨fun h => (by rw [h] at hr; cases hr), fun j hj => ?_⟩
    by_cases hji : j = i
    · subst hji; exact hy.wpOp hi (hSy _ hS) (.inr ⟨hS, H⟩)
    · have h1 := H.2 j (ready_mono hj hji)
      obtain ⟨hjun, oj, hoj, hall⟩ := mem_ready.1 hj
      have hnot : ∀ e ∈ oj.after, Region.binds .any e = true → e.on ≠ i := fun e he hb heq => by
        have h1 := hall e he hb
        have h0 := (mem_ready.1 hr).1
        rw [heq] at h1
        rcases Nat.lt_or_ge i listed.size with h' | h'
        · simp [h'] at h0 h1; rw [h0] at h1; cases h1
        · simp [Array.getElem?_eq_none h'] at h1
      have h2 := wpOp_putIf hoj (hfree j oj hoj hji hjun hnot) (fun cs b => hsel i oi cs b hi) (fun cs b => hsel j oj cs b hoj) hQ hy h1
      have hfree' : ∀ k ok, ops[k]? = some ok → k ≠ i → (listed.setIfInBounds j true).getD k true = false →
          (∀ e ∈ ok.after, Region.binds .any e = true → e.on ≠ i) → oi.apart ops ok = true := fun k ok hk hki hun hno => by
        refine hfree k ok hk hki ?_ hno
        by_cases hjk : j = k
        · subst hjk; exact hjun
        · rw [getD_set_ne true hjk] at hun; exact hun
      have hri : i ∈ Region.ready .any ops (listed.setIfInBounds j true) := ready_mono hr (Ne.symm hji)
      refine wpOp_mono (fun a' w' h3 => ?_) h2
      obtain ⟨h4, h5⟩ := h3
      rcases h5 with ⟨hl, S2, hS2, h6⟩ | ⟨h5', h6⟩
      · have hm := hmv (lastB_spec hcl hj hr hl (Array.getElem?_eq_some_iff.1 hi).1 (Ne.symm hji))
        refine .inl ⟨hl, S2, hS2, ih S2 (listed.setIfInBounds j true) a' w' (fun w _ => hm w) (hcl.step hj) hfree' hri h4 hS2 ?_⟩
        rw [Array.setIfInBounds_comm _ _ hji]
        exact h6
      · refine .inr ⟨h5', ih S (listed.setIfInBounds j true) a' w' hSy (hcl.step hj) hfree' hri h4 h5' ?_⟩
        rw [Array.setIfInBounds_comm _ _ hji]
        exact h6
end

/-- The order in which one looks at them: quiet ones as soon as they may come up; one that does more, when no other one may. -/
inductive Scr where
  | nil
  | q (i : Nat) (s : Scr)
  | e (i : Nat) (s : Scr)
  | br (i : Nat) (s : Scr) (j : Nat) (t : Scr)
  | br3 (i : Nat) (s : Scr) (j : Nat) (t : Scr) (k : Nat) (u : Scr)
def Scr.len : Scr → Nat
  | .nil => 0
  | .q _ s | .e _ s | .br _ s _ _ | .br3 _ s _ _ _ _ => s.len + 1
def scrB (ops : Array Oper) : Scr → Array Bool → Bool
  | .nil, listed => (Region.ready .any ops listed).isEmpty
  | .q i s, listed => (Region.ready .any ops listed).contains i && Region.free .any ops listed i && scrB ops s (listed.setIfInBounds i true)
  | .e i s, listed => (Region.ready .any ops listed) == [i] && scrB ops s (listed.setIfInBounds i true)
  | .br i s j t, listed => (Region.ready .any ops listed) == [i, j] && Nat.beq s.len t.len && scrB ops s (listed.setIfInBounds i true) && scrB ops t (listed.setIfInBounds j true)
  | .br3 i s j t k u, listed => (Region.ready .any ops listed) == [i, j, k] && Nat.beq s.len t.len && Nat.beq s.len u.len && scrB ops s (listed.setIfInBounds i true) && scrB ops t (listed.setIfInBounds j true) && scrB ops u (listed.setIfInBounds k true)

def RS (P : Program) (B : Exit → Act → World → Prop) (g : Glob) (n : Nat) (ops : List Oper) (S : List HP) (s : Scr) (K : List Kt) (σ : Env) (L : List HP) : Prop :=
  ∀ listed, Region.noSelect ops.toArray = true → Closed ops.toArray listed → scrB ops.toArray s listed = true → (∀ h, sat L h → sat S h) → ∀ a w, Sat g n σ a → Hp g L w →
    wpAnyC P ops.toArray (Kq g.rnd P B K) (fun w => sat S w.hm) s.len listed a w
def noPanic (Q : Exit → Act → World → Prop) : Prop := ∀ c a w, ¬ Q (.panic c) a w
theorem G_draw {id : Nat} {l : List Oper} (s : Scr) (hm : P.follows .mixedOrders = true) (hB : (noDefL l && (Region.noSelect l.toArray && Nat.beq s.len l.length && scrB l.toArray s (Array.replicate l.length false))) = true)
    (h : RS P B g n l L s K σ L) : G P B g n (.code (.region id l.toArray true) :: K) σ L := fun a w hs hw => by
  simp only [Bool.and_eq_true] at hB
  obtain ⟨h0, ⟨h1, h2⟩, h3⟩ := hB
  refine wpIn_region_any hm (wpAny_in h0 Kq_in _ _ _ _ <| wpAny_of_C (S := fun w => sat L w.hm) _ _ _ _ ?_)
  have e : l.toArray.size = s.len := by rw [Nat.eq_of_beq_eq_true h2]; rfl
  rw [e]
  refine h (Array.replicate s.len false) h1 (fun i hi => ?_) (by rw [← e]; simpa using h3) (fun _ h => h) a _ hs hw.drew
  exfalso
  rcases Nat.lt_or_ge i s.len with h' | h'
  · simp [h'] at hi
  · simp [h'] at hi
/-- A list without its k-th part. -/
def eraseN : List HP → Nat → List HP
  | [], _ => []
  | _ :: L, 0 => L
  | A :: L, k + 1 => A :: eraseN L k
theorem sat.eraseN : ∀ {L : List HP} (k : Nat) {h : Hm}, sat L h → sat (eraseN L k) h
  | [], _, _, s => s
  | _ :: _, 0, _, s => s.tail
  | _ :: _, k + 1, _, s => s.cons_mono fun _ s => sat.eraseN k s
theorem G_drawS {id : Nat} {l : List Oper} (S : List HP) (s : Scr) (hS : ∀ h, sat L h → sat S h) (hm : P.follows .mixedOrders = true) (hB : (noDefL l && (Region.noSelect l.toArray && Nat.beq s.len l.length && scrB l.toArray s (Array.replicate l.length false))) = true)
    (h : RS P B g n l S s K σ L) : G P B g n (.code (.region id l.toArray true) :: K) σ L := fun a w hs hw => by
  simp only [Bool.and_eq_true] at hB
  obtain ⟨h0, ⟨h1, h2⟩, h3⟩ := hB
  refine wpIn_region_any hm (wpAny_in h0 Kq_in _ _ _ _ <| wpAny_of_C (S := fun w => sat S w.hm) _ _ _ _ ?_)
  have e : l.toArray.size = s.len := by rw [Nat.eq_of_beq_eq_true h2]; rfl
  rw [e]
  refine h (Array.replicate s.len false) h1 (fun i hi => ?_) (by rw [← e]; simpa using h3) hS a _ hs hw.drew
  exfalso
  rcases Nat.lt_or_ge i s.len with h' | h'
  · simp [h'] at hi
  · simp [h'] at hi
theorem G_drawE {id : Nat} {l : List Oper} (k : Nat) (s : Scr) (hm : P.follows .mixedOrders = true) (hB : (noDefL l && (Region.noSelect l.toArray && Nat.beq s.len l.length && scrB l.toArray s (Array.replicate l.length false))) = true)
    (h : RS P B g n l (eraseN L k) s K σ L) : G P B g n (.code (.region id l.toArray true) :: K) σ L := G_drawS _ s (fun _ s => s.eraseN k) hm hB h
variable {S : List HP} {s t : Scr} {lo : List Oper}
/-- It comes up, and what the quiet ones lean on stays. -/
theorem G_round2 {ι : Type} {τ : ι → Env} {M : ι → List HP} {F : ι → Prop} {μ : ι → Nat} {m : Nat} (y : ι) (hf : F y) (hm : μ y < m) (hσ : envSub σ (τ y)) (hL : ∀ h, sat L h → sat (M y) h) :
    G P B g n (.inv (fun a w => ∃ y, F y ∧ μ y < m ∧ Sat g n (τ y) a ∧ Hp g (M y) w) :: K) σ L := G_round y hf hm hσ hL
theorem RS_nil (h : G P B g n K σ L) : RS P B g n lo S .nil K σ L := fun listed _ _ hB _ a w hs hw =>
  ⟨by simpa [scrB] using hB, h a w hs hw⟩
theorem Kq_noPanic (hB : noPanic B) : ∀ K, noPanic (Kq g.rnd P B K)
  | [] => hB
  | .code _ :: K => fun c a w => Kq_noPanic hB K c a w
  | .blk _ :: K => fun c a w => Kq_noPanic hB K c a w
  | .inv _ :: K => fun c a w => Kq_noPanic hB K c a w
theorem G_pure {φ : Prop} (f : ∀ h, sat L h → φ) (h : φ → G P B g n K σ L) : G P B g n K σ L := fun a w hs hw => h (f _ hw.s) a w hs hw
theorem RS_put {i : Nat} {o : Oper} {v : Value} {Sy : List HP} (hSy : ∀ h, sat S h → sat Sy h) (hmo : mvO o = true → Sy = []) (hB : noPanic B) (hi : lo[i]? = some o) (hd : dstOk n o.dst = true) (hy : ∀ a, Sat g n σ a → YieldsIf P lo.toArray (fun w => sat Sy w.hm) o v a)
    (h : RS P B g n lo S s K (putE σ o.dst v) L) : RS P B g n lo S (.q i s) K σ L := fun listed h1 hcl h2 hL a w hs hw => by
  simp only [scrB, Bool.and_eq_true] at h2
  obtain ⟨⟨h3, h4⟩, h5⟩ := h2
  have hi' : lo.toArray[i]? = some o := by simpa using hi
  have hr : i ∈ Region.ready .any lo.toArray listed := by simpa using h3
  have hQ : ∀ c a w, Kq g.rnd P B K (.panic c) (a.put o.dst v) w → Kq g.rnd P B K (.panic c) a w := fun c a w hq => absurd hq (Kq_noPanic hB K c _ w)
  have hgo := h _ h1 (hcl.step hr) h5 hL _ w (hs.put' v hd) hw
  refine wpAnyC_first hi' (Region.noSelect_spec h1) hQ (fun w => sat Sy w.hm) (fun e w => ?_) _ (fun w => sat S w.hm) listed a w (fun w h => hSy _ h) hcl (Region.free_spec hi' h4) hr (hy a hs) (hL _ hw.s) hgo
  have e2 : mvO o = true := by
    unfold mvB at e
    rw [hi'] at e
    exact e
  rw [hmo e2]
  trivial
theorem RS_q {i : Nat} {o : Oper} {v : Value} (hB : noPanic B) (hi : lo[i]? = some o) (hm : mvO o = false) (hg : o.guard = none) (hd : dstOk n o.dst = true) (he : Ev P S σ o v)
    (h : RS P B g n lo S s K (putE σ o.dst v) L) : RS P B g n lo S (.q i s) K σ L :=
  RS_put (Sy := S) (fun _ h => h) (fun e => by rw [hm] at e; cases e) hB hi hd (fun a hs => .inl ⟨by simp [Region.wanted, hg], fun w hw => he a w hs.e hw⟩) h
/-- One that looks at no memory. -/
theorem RS_m {i : Nat} {o : Oper} {v : Value} (hB : noPanic B) (hi : lo[i]? = some o) (_hm : mvO o = true) (hg : o.guard = none) (hd : dstOk n o.dst = true) (he : Ev P [] σ o v)
    (h : RS P B g n lo S s K (putE σ o.dst v) L) : RS P B g n lo S (.q i s) K σ L :=
  RS_put (Sy := []) (fun _ _ => trivial) (fun _ => rfl) hB hi hd (fun a hs => .inl ⟨by simp [Region.wanted, hg], fun w hw => he a w hs.e hw⟩) h
/-- A guarded one, whose guard's value is known. -/
theorem RS_q_yes {i j d : Nat} {o : Oper} {v : Value} {b : Bool} (hB : noPanic B) (hi : lo[i]? = some o) (hm : mvO o = false) (hg : o.guard = some (j, b)) (hj : (lo[j]?).bind (·.dst) = some d) (hb : ∃ b', σ.get d = some (.bool b') ∧ b' = b) (hd : dstOk n o.dst = true) (he : Ev P S σ o v)
    (h : RS P B g n lo S s K (putE σ o.dst v) L) : RS P B g n lo S (.q i s) K σ L := by
  obtain ⟨b', hb, rfl⟩ := hb
  exact RS_put (Sy := S) (fun _ h => h) (fun e => by rw [hm] at e; cases e) hB hi hd (fun a hs => .inl ⟨by simp [Region.wanted, hg, yielded_is (ops := lo.toArray) hs.e (by simpa using hj) hb], fun w hw => he a w hs.e hw⟩) h
theorem RS_m_yes {i j d : Nat} {o : Oper} {v : Value} {b : Bool} (hB : noPanic B) (hi : lo[i]? = some o) (_hm : mvO o = true) (hg : o.guard = some (j, b)) (hj : (lo[j]?).bind (·.dst) = some d) (hb : ∃ b', σ.get d = some (.bool b') ∧ b' = b) (hd : dstOk n o.dst = true) (he : Ev P [] σ o v)
    (h : RS P B g n lo S s K (putE σ o.dst v) L) : RS P B g n lo S (.q i s) K σ L := by
  obtain ⟨b', hb, rfl⟩ := hb
  exact RS_put (Sy := []) (fun _ _ => trivial) (fun _ => rfl) hB hi hd (fun a hs => .inl ⟨by simp [Region.wanted, hg, yielded_is (ops := lo.toArray) hs.e (by simpa using hj) hb], fun w hw => he a w hs.e hw⟩) h
theorem RS_q_no {i j d : Nat} {o : Oper} {b : Bool} (hB : noPanic B) (hi : lo[i]? = some o) (hg : o.guard = some (j, b)) (hj : (lo[j]?).bind (·.dst) = some d) (hb : ∃ b', σ.get d = some (.bool b') ∧ b' = !b) (hd : dstOk n o.dst = true)
    (h : RS P B g n lo S s K (putE σ o.dst undef) L) : RS P B g n lo S (.q i s) K σ L := by
  obtain ⟨b', hb, rfl⟩ := hb
  exact RS_put (Sy := []) (fun _ _ => trivial) (fun _ => rfl) hB hi hd (fun a hs => .inr ⟨by simp [Region.wanted, hg, yielded_is (ops := lo.toArray) hs.e (by simpa using hj) hb], rfl⟩) h
theorem RS_q_undef {i j d : Nat} {o : Oper} {b : Bool} (hB : noPanic B) (hi : lo[i]? = some o) (hg : o.guard = some (j, b)) (hj : (lo[j]?).bind (·.dst) = some d) (hb : σ.get d = some undef) (hd : dstOk n o.dst = true)
    (h : RS P B g n lo S s K (putE σ o.dst undef) L) : RS P B g n lo S (.q i s) K σ L :=
  RS_put (Sy := []) (fun _ _ => trivial) (fun _ => rfl) hB hi hd (fun a hs => .inr ⟨by simp [Region.wanted, hg, yielded_undef (ops := lo.toArray) hs.e (by simpa using hj) hb], rfl⟩) h
/-- One that does more comes up. -/
def RE (P : Program) (B : Exit → Act → World → Prop) (g : Glob) (n : Nat) (ops : List Oper) (S : List HP) (i : Nat) (s : Scr) (K : List Kt) (σ : Env) (L : List HP) : Prop :=
  ∀ listed, Region.noSelect ops.toArray = true → Closed ops.toArray listed → i ∈ Region.ready .any ops.toArray listed → scrB ops.toArray s (listed.setIfInBounds i true) = true → (∀ h, sat L h → sat S h) → ∀ a w, Sat g n σ a → Hp g L w →
    wpOp P ops.toArray (Kq g.rnd P B K) i (fun a' w' => (lastB ops.toArray i = true ∧ ∃ S2 : World → Prop, S2 w' ∧ wpAnyC P ops.toArray (Kq g.rnd P B K) S2 s.len (listed.setIfInBounds i true) a' w') ∨ (sat S w'.hm ∧ wpAnyC P ops.toArray (Kq g.rnd P B K) (fun w => sat S w.hm) s.len (listed.setIfInBounds i true) a' w')) a w
theorem RS_e {i : Nat} (h : RE P B g n lo S i s K σ L) : RS P B g n lo S (.e i s) K σ L := fun listed h1 hcl h2 hL a w hs hw => by
  simp only [scrB, Bool.and_eq_true, beq_iff_eq] at h2
  obtain ⟨h3, h5⟩ := h2
  refine ⟨fun h0 => (by rw [h3] at h0; cases h0), fun j hj => ?_⟩
  have hr := hj
  rw [h3, List.mem_singleton] at hj
  subst hj
  exact h listed h1 hcl hr h5 hL a w hs hw
theorem RS_br {i j : Nat} (h : RE P B g n lo S i s K σ L) (h' : RE P B g n lo S j t K σ L) : RS P B g n lo S (.br i s j t) K σ L := fun listed h1 hcl h2 hL a w hs hw => by
  simp only [scrB, Bool.and_eq_true, beq_iff_eq] at h2
  obtain ⟨⟨⟨h3, h4⟩, h5⟩, h6⟩ := h2
  refine ⟨fun h0 => (by rw [h3] at h0; cases h0), fun k hk => ?_⟩
  have hr := hk
  rw [h3, List.mem_cons, List.mem_singleton] at hk
  rcases hk with rfl | rfl
  · exact h listed h1 hcl hr h5 hL a w hs hw
  · have := h' listed h1 hcl hr h6 hL a w hs hw
    rw [← Nat.eq_of_beq_eq_true h4] at this
    exact this
theorem RS_br3 {i j k : Nat} {u : Scr} (h : RE P B g n lo S i s K σ L) (h' : RE P B g n lo S j t K σ L) (h'' : RE P B g n lo S k u K σ L) : RS P B g n lo S (.br3 i s j t k u) K σ L := fun listed h1 hcl h2 hL a w hs hw => by
  simp only [scrB, Bool.and_eq_true, beq_iff_eq] at h2
  obtain ⟨⟨⟨⟨⟨h3, h4⟩, h4'⟩, h5⟩, h6⟩, h7⟩ := h2
  refine ⟨fun h0 => (by rw [h3] at h0; cases h0), fun m hm => ?_⟩
  have hr := hm
  rw [h3, List.mem_cons, List.mem_cons, List.mem_singleton] at hm
  rcases hm with rfl | rfl | rfl
  · exact h listed h1 hcl hr h5 hL a w hs hw
  · have := h' listed h1 hcl hr h6 hL a w hs hw
    rw [← Nat.eq_of_beq_eq_true h4] at this
    exact this
  · have := h'' listed h1 hcl hr h7 hL a w hs hw
    rw [← Nat.eq_of_beq_eq_true h4'] at this
    exact this
theorem RE_eff {i : Nat} {o : Oper} {post : Value → List HP → Prop} (hi : lo[i]? = some o) (hg : o.guard = none) (hd : dstOk n o.dst = true) (he : Eff P g L σ o post)
    (h : ∀ v L', post v L' → ∃ S', (∀ h, sat L' h → sat S' h) ∧ (∀ h, sat S' h → sat S h) ∧ RS P B g n lo S' s K (putE σ o.dst v) L') : RE P B g n lo S i s K σ L := fun listed h1 hcl hr h5 hL a w hs hw => by
  have hi' : lo.toArray[i]? = some o := by simpa using hi
  unfold wpOp
  simp only [hi', Region.wanted, hg, if_true]
  refine .inl (he a w hs.e hw _ _ fun v w' L' hp hw' => ?_)
  obtain ⟨S', hLS, hSS, hrs⟩ := h v L' hp
  refine .inr ⟨hSS _ (hLS _ hw'.s), ?_⟩
  exact wpAnyC_mono (fun w hw => hSS _ hw) _ _ _ _ (hrs _ h1 (hcl.step hr) h5 hLS _ _ (hs.put' v hd) hw')
theorem RS_guard {d : Nat} {b : Bool} (want : Bool) (_hd : σ.get d = some (.bool b)) (h1 : b = want → RS P B g n lo S s K σ L) (h2 : b = !want → RS P B g n lo S s K σ L) : RS P B g n lo S s K σ L := by
  cases b <;> cases want
  · exact h1 rfl
  · exact h2 rfl
  · exact h2 rfl
  · exact h1 rfl
theorem RE_eff_yes {i j d : Nat} {o : Oper} {b : Bool} {post : Value → List HP → Prop} (hi : lo[i]? = some o) (hg : o.guard = some (j, b)) (hj : (lo[j]?).bind (·.dst) = some d) (hb : ∃ b', σ.get d = some (.bool b') ∧ b' = b) (hd : dstOk n o.dst = true) (he : Eff P g L σ o post)
    (h : ∀ v L', post v L' → ∃ S', (∀ h, sat L' h → sat S' h) ∧ (∀ h, sat S' h → sat S h) ∧ RS P B g n lo S' s K (putE σ o.dst v) L') : RE P B g n lo S i s K σ L := fun listed h1 hcl hr h5 hL a w hs hw => by
  obtain ⟨b', hb, rfl⟩ := hb
  have hi' : lo.toArray[i]? = some o := by simpa using hi
  unfold wpOp
  simp only [hi', Region.wanted, hg, yielded_is (ops := lo.toArray) hs.e (by simpa using hj) hb, beq_self_eq_true, if_true]
  refine .inl (he a w hs.e hw _ _ fun v w' L' hp hw' => ?_)
  obtain ⟨S', hLS, hSS, hrs⟩ := h v L' hp
  refine .inr ⟨hSS _ (hLS _ hw'.s), ?_⟩
  exact wpAnyC_mono (fun w hw => hSS _ hw) _ _ _ _ (hrs _ h1 (hcl.step hr) h5 hLS _ _ (hs.put' v hd) hw')
theorem RE_no {i j d : Nat} {o : Oper} {b : Bool} (hi : lo[i]? = some o) (hg : o.guard = some (j, b)) (hj : (lo[j]?).bind (·.dst) = some d) (hb : ∃ b', σ.get d = some (.bool b') ∧ b' = !b) (hd : dstOk n o.dst = true)
    (h : RS P B g n lo S s K (putE σ o.dst undef) L) : RE P B g n lo S i s K σ L := fun listed h1 hcl hr h5 hL a w hs hw => by
  obtain ⟨b', hb, rfl⟩ := hb
  have hi' : lo.toArray[i]? = some o := by simpa using hi
  unfold wpOp
  simp only [hi', Region.wanted, hg, yielded_is (ops := lo.toArray) hs.e (by simpa using hj) hb]
  have e : (some (!b) == some b) = false := by cases b <;> rfl
  simp only [e]
  exact .inr ⟨hL _ hw.s, h _ h1 (hcl.step hr) h5 hL _ _ (hs.put' undef hd) hw⟩
theorem RE_undef {i j d : Nat} {o : Oper} {b : Bool} (hi : lo[i]? = some o) (hg : o.guard = some (j, b)) (hj : (lo[j]?).bind (·.dst) = some d) (hb : σ.get d = some undef) (hd : dstOk n o.dst = true)
    (h : RS P B g n lo S s K (putE σ o.dst undef) L) : RE P B g n lo S i s K σ L := fun listed h1 hcl hr h5 hL a w hs hw => by
  have hi' : lo.toArray[i]? = some o := by simpa using hi
  have hy := yielded_undef (ops := lo.toArray) hs.e (by simpa using hj) hb
  have e : (yielded lo.toArray a.tmps j == some b) = false := by rw [hy]; rfl
  unfold wpOp
  simp only [hi', Region.wanted, hg, e]
  exact .inr ⟨hL _ hw.s, h _ h1 (hcl.step hr) h5 hL _ _ (hs.put' undef hd) hw⟩
/-- The last one of all. -/
theorem RE_last {i : Nat} {o : Oper} {post : Value → List HP → Prop} (hl : lastB lo.toArray i = true) (hi : lo[i]? = some o) (hg : o.guard = none) (hd : dstOk n o.dst = true) (he : Eff P g L σ o post)
    (h : ∀ v L', post v L' → G P B g n K (putE σ o.dst v) L') : RE P B g n lo S i .nil K σ L := fun listed h1 hcl hr h5 hL a w hs hw => by
  have hi' : lo.toArray[i]? = some o := by simpa using hi
  unfold wpOp
  simp only [hi', Region.wanted, hg, if_true]
  exact .inl (he a w hs.e hw _ _ fun v w' L' hp hw' => .inl ⟨hl, fun _ => True, trivial, by simpa [scrB] using h5, h v L' hp _ _ (hs.put' v hd) hw'⟩)
/-- One that each other one comes ahead of, or behind: what the quiet ones lean on may turn. -/
theorem RE_cmp {i : Nat} {o : Oper} {post : Value → List HP → Prop} (hl : lastB lo.toArray i = true) (hi : lo[i]? = some o) (hg : o.guard = none) (hd : dstOk n o.dst = true) (he : Eff P g L σ o post)
    (h : ∀ v L', post v L' → RS P B g n lo L' s K (putE σ o.dst v) L') : RE P B g n lo S i s K σ L := fun listed h1 hcl hr h5 hL a w hs hw => by
  have hi' : lo.toArray[i]? = some o := by simpa using hi
  unfold wpOp
  simp only [hi', Region.wanted, hg, if_true]
  exact .inl (he a w hs.e hw _ _ fun v w' L' hp hw' => .inl ⟨hl, fun w => sat L' w.hm, hw'.s, h v L' hp _ h1 (hcl.step hr) h5 (fun _ s => s) _ _ (hs.put' v hd) hw'⟩)
theorem RE_cmp_yes {i j d : Nat} {o : Oper} {b : Bool} {post : Value → List HP → Prop} (hl : lastB lo.toArray i = true) (hi : lo[i]? = some o) (hg : o.guard = some (j, b)) (hj : (lo[j]?).bind (·.dst) = some d) (hb : ∃ b', σ.get d = some (.bool b') ∧ b' = b) (hd : dstOk n o.dst = true) (he : Eff P g L σ o post)
    (h : ∀ v L', post v L' → RS P B g n lo L' s K (putE σ o.dst v) L') : RE P B g n lo S i s K σ L := fun listed h1 hcl hr h5 hL a w hs hw => by
  obtain ⟨b', hb, rfl⟩ := hb
  have hi' : lo.toArray[i]? = some o := by simpa using hi
  unfold wpOp
  simp only [hi', Region.wanted, hg, yielded_is (ops := lo.toArray) hs.e (by simpa using hj) hb, beq_self_eq_true, if_true]
  exact .inl (he a w hs.e hw _ _ fun v w' L' hp hw' => .inl ⟨hl, fun w => sat L' w.hm, hw'.s, h v L' hp _ h1 (hcl.step hr) h5 (fun _ s => s) _ _ (hs.put' v hd) hw'⟩)
end

/-! A whole function. -/
section
variable {P : Program} {fn : Func} {g : Glob} {n : Nat} {K : List Kt} {σ : Env} {L : List HP}
def argsE (args : List Value) : Nat → Env
  | k => match args with
    | [] => []
    | v :: l => (k, v) :: argsE l (k + 1)
/-- How a function ends. -/
def retB (P : Program) (fn : Func) (g : Glob) (F : HP) (post : Value → List HP → Prop) : Exit → Act → World → Prop
  | .normal, a, w | .ret, a, w => a.defers = g.dfs ∧ ∃ v, (results fn a.tmps).run P w = .ok v w ∧ ∃ L', post v L' ∧ Hp g (F :: L') w
  | _, _, _ => False
theorem retB_body {P : Program} {fn : Func} {g : Glob} {F : HP} {post : Value → List HP → Prop} : ∀ e a w, retB P fn g.base F post e a w → bodyPost P fn (fun e w' => ∃ v L', e = .returned v ∧ post v L' ∧ Hp g (F :: L') w') e a w := fun e a w h => by
  cases e with
  | normal => obtain ⟨h1, v, h2, L', h3, h4⟩ := h; exact ⟨h1, v, h2, v, L', rfl, h3, h4.of_base⟩
  | ret => obtain ⟨h1, v, h2, L', h3, h4⟩ := h; exact ⟨h1, v, h2, v, L', rfl, h3, h4.of_base⟩
  | _ => exact h.elim
theorem en_keep {A : HP} {L M : List HP} (f : ∀ h, sat L h → sat M h) : ∀ h, sat (A :: L) h → sat (A :: M) h := fun _ s => s.cons_mono f
theorem en_drop {A : HP} {L M : List HP} (f : ∀ h, sat L h → sat M h) : ∀ h, sat (A :: L) h → sat M h := fun _ s => f _ s.tail
theorem retB_noPanic {F : HP} {post : Value → List HP → Prop} : noPanic (retB P fn g F post) := fun _ _ _ h => h
theorem argsE_get (args : List Value) : ∀ (k t : Nat) (v : Value), (argsE args k).get t = some v → ∃ j, t = k + j ∧ args[j]? = some v := by
  induction args with
  | nil => intro k t v h; cases h
  | cons u l ih =>
    intro k t v h
    simp only [argsE, Env.get] at h
    cases hb : Nat.beq k t with
    | true => rw [hb] at h; exact ⟨0, (Nat.eq_of_beq_eq_true hb).symm, by simpa using h⟩
    | false =>
      rw [hb] at h
      obtain ⟨j, e, hj⟩ := ih (k + 1) t v (by simpa using h)
      exact ⟨j + 1, by omega, by simpa using hj⟩
theorem Ctr_of {f : FuncId} {c : Code} {args : List Value} {post : Value → List HP → Prop} (hf : P.funcs[f]? = some fn) (hb : fn.body = some c) (hn : fn.ntmps = n) (hlen : Nat.ble args.length n = true)
    (h : ∀ g F, G P (retB P fn g F post) g n [.code c] (argsE args 0) (F :: L)) : Ctr P f args.toArray L post := fun g F w hw => by
  refine calls_of_wp hf hb ?_
  have hsz : args.toArray.size ≤ fn.ntmps := by rw [hn]; exact Nat.le_of_ble_eq_true hlen
  have := h g.base F { tmps := args.toArray ++ Array.replicate (fn.ntmps - args.toArray.size) undef, defers := [] } w ⟨by simp at hsz ⊢; omega, rfl, fun t v e => ?_⟩ hw.base
  · exact Code.wp_mono (fun e a w h => by cases e <;> first | exact retB_body _ _ _ h | exact h.elim) (wpIn_wide.1 this)
  · obtain ⟨j, rfl, hj⟩ := argsE_get args 0 t v e
    have hlt : j < args.length := (List.getElem?_eq_some_iff.1 hj).1
    rw [Nat.zero_add, Array.getElem?_append_left (by simpa using hlt)]
    simpa using hj
/-- What the result variables hold. -/
inductive Res (P : Program) (σ : Env) (L : List HP) : List ResultVar → List Value → Prop where
  | nil : Res P σ L [] []
  | tmp {t : Nat} {v : Value} {rs : List ResultVar} {vs : List Value} (h : σ.get t = some v) (r : Res P σ L rs vs) : Res P σ L (.tmp t :: rs) (v :: vs)
  | cell {a : Nat} {t : TypeId} {p : Addr} {v : Value} {rs : List ResultVar} {vs : List Value} (h : σ.get a = some (.pointer (some p))) (hl : ∀ w, sat L w.hm → (loadVar t p).run P w = .ok v w) (r : Res P σ L rs vs) : Res P σ L (.cell a t :: rs) (v :: vs)
def retv : List Value → Value
  | [v] => v
  | vs => .tuple vs.toArray
theorem Res.run {rs : List ResultVar} {vs : List Value} (h : Res P σ L rs vs) {a : Act} {w : World} (hs : SatE σ a) (hw : sat L w.hm) : 
    (rs.mapM (m := Sem) fun | .tmp t => pure (a.tmps.getD t undef) | .cell c t => do loadVar t (← asAddr (a.tmps.getD c undef))).run P w = .ok vs w := by
  induction h with
  | nil => rfl
  | @tmp t v rs vs h r ih =>
    have e : a.tmps.getD t undef = v := by rw [Array.getD_eq_getD_getElem?, hs _ _ h, Option.getD_some]
    simp only [List.mapM_cons, Sem.run_bind, Sem.run_pure, Result.andThen_ok, ih, e]
  | @cell c t p v rs vs h hl r ih =>
    have e : a.tmps.getD c undef = .pointer (some p) := by rw [Array.getD_eq_getD_getElem?, hs _ _ h, Option.getD_some]
    have ea : asAddr (.pointer (some p)) = (pure p : Sem Addr) := rfl
    simp only [List.mapM_cons, Sem.run_bind, Sem.run_pure, Result.andThen_ok, ih, e, ea, hl w hw]
theorem G_ret {rs : List ResultVar} {vs : List Value} {L' : List HP} {F : HP} {post : Value → List HP → Prop} (hr : fn.results = rs.toArray) (h : Res P σ L rs vs) (hL : ∀ h, sat L h → sat (F :: L') h) (hp : post (retv vs) L') : G P (retB P fn g F post) g n (.code .ret :: K) σ L := fun a w hs hw => by
  refine wpIn_ret (Kq_ret ⟨hs.defers, retv vs, ?_, L', hp, hw.mono hL⟩)
  unfold results
  rw [hr]
  simp only [List.mapM_toArray, Sem.run_bind, Sem.run_map]
  have e := h.run hs.e hw.s
  generalize hm : List.mapM (m := Sem) _ rs = m
  have e' : m.run P w = .ok vs w := by rw [← hm]; exact e
  rw [e']
  simp only [Result.andThen_ok, Sem.run_pure]
  cases vs with
  | nil => rfl
  | cons v l => cases l <;> simp [retv]
end
end Go.Proofs.Ytmgkmammkmlakaa
