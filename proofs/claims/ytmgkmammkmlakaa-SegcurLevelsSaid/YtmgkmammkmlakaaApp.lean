/- Slices: what they read as, and those that a call has for itself. No program stands in this text. -/
import Derived.Test.YtmgkmammkmlakaaOps
import Derived.Maps.AppendAt
namespace Go.Proofs.Ytmgkmammkmlakaa
open Go.RowKit
set_option linter.unusedSimpArgs false
set_option linter.unusedSectionVars false
set_option linter.unusedVariables false

/-- What a slice reads as, cell by cell: nil and empty let in. -/
structure Rc (L : List HP) (sz : Nat) (A : Option Addr) (n : Nat) (xs : List Value) : Prop where
  len : xs.length = n * sz
  get : 0 < n → ∃ b o, A = some ⟨b, o, none⟩ ∧ ∀ (j : Nat) (v : Value), xs[j]? = some v → Ld L ⟨b, o + j, none⟩ v
theorem Rc.skip {X : HP} {L : List HP} {sz n : Nat} {A : Option Addr} {xs : List Value} (h : Rc L sz A n xs) : Rc (X :: L) sz A n xs :=
  ⟨h.1, fun hn => let ⟨b, o, e, f⟩ := h.2 hn; ⟨b, o, e, fun j v hj => (f j v hj).skip⟩⟩
theorem Rc.app {N L : List HP} {sz n : Nat} {A : Option Addr} {xs : List Value} (h : Rc L sz A n xs) : Rc (N ++ L) sz A n xs := by
  induction N with
  | nil => exact h
  | cons X N ih => exact ih.skip
theorem LdN.part {L : List HP} {b o n : Nat} {vs ws : List Value} (h : LdN L b o n vs) (m : Nat) (e : takeE vs m = some ws) : LdN L b o m ws :=
  ⟨(takeE_get e).1, fun j v hj => h.2 j v ((takeE_get e).2 j v hj)⟩
theorem LdN.at_ {L : List HP} {b o n i : Nat} {vs : List Value} {v : Value} (h : LdN L b o n vs) (hv : vs[i]? = some v) : Ld L ⟨b, o + i, none⟩ v := h.2 i v hv
/-- Elements, each of so many cells. -/
class Enc (α : Type) where
  sz : Nat
  enc : α → List Value
  len : ∀ a, (enc a).length = sz
  one : ∀ a, ∀ v ∈ enc a, v.oneCell' = true
def flat {α : Type} [Enc α] (l : List α) : List Value := l.flatMap Enc.enc
instance : Enc Int := ⟨1, fun n => [.int .i64 n], fun _ => rfl, fun _ v h => by simp at h; subst h; rfl⟩
section
variable {α : Type} [E : Enc α]
theorem flat_nil : flat ([] : List α) = [] := rfl
theorem flat_cons (a : α) (l : List α) : flat (a :: l) = Enc.enc a ++ flat l := by simp [flat]
theorem flat_append (l m : List α) : flat (l ++ m) = flat l ++ flat m := by simp [flat]
theorem flat_length : ∀ (l : List α), (flat l).length = l.length * E.sz
  | [] => by simp [flat]
  | a :: l => by rw [flat_cons, List.length_append, Enc.len, flat_length l, List.length_cons, Nat.add_mul]; omega
theorem flat_at : ∀ {l : List α} {k : Nat} {a : α}, l[k]? = some a → ∀ (j : Nat) (v : Value), (E.enc a)[j]? = some v → (flat l)[k * E.sz + j]? = some v
  | [], k, a, h, _, _, _ => by simp at h
  | b :: l, 0, a, h, j, v, hj => by
    simp at h; subst h
    have : j < (E.enc b).length := (List.getElem?_eq_some_iff.1 hj).1
    rw [flat_cons, Nat.zero_mul, Nat.zero_add, List.getElem?_append_left this]; exact hj
  | b :: l, k + 1, a, h, j, v, hj => by
    have ih := flat_at (l := l) (k := k) (a := a) (by simpa using h) j v hj
    rw [flat_cons, List.getElem?_append_right (by rw [Enc.len, Nat.add_mul]; omega), Enc.len]
    rw [show (k + 1) * E.sz + j - E.sz = k * E.sz + j by rw [Nat.add_mul]; omega]
    exact ih
theorem flat_one (l : List α) : ∀ v ∈ flat l, v.oneCell' = true := by
  intro v hv
  obtain ⟨a, _, ha⟩ := List.mem_flatMap.1 hv
  exact Enc.one a v ha
theorem flat_take (l : List α) (k : Nat) : flat (l.take k) = (flat l).take (k * E.sz) := by
  induction l generalizing k with
  | nil => simp [flat]
  | cons a l ih =>
    cases k with
    | zero => simp [flat]
    | succ k =>
      rw [List.take_succ_cons, flat_cons, flat_cons, ih]
      have h1 : E.sz ≤ (k + 1) * E.sz := by rw [Nat.add_mul]; omega
      rw [List.take_append, Enc.len, List.take_of_length_le (l := E.enc a) (by rw [Enc.len]; exact h1)]
      rw [show (k + 1) * E.sz - E.sz = k * E.sz by rw [Nat.add_mul]; omega]
theorem flat_drop (l : List α) (k : Nat) : flat (l.drop k) = (flat l).drop (k * E.sz) := by
  induction l generalizing k with
  | nil => simp [flat]
  | cons a l ih =>
    cases k with
    | zero => simp [flat]
    | succ k =>
      rw [List.drop_succ_cons, flat_cons, ih]
      have h1 : E.sz ≤ (k + 1) * E.sz := by rw [Nat.add_mul]; omega
      rw [List.drop_append, Enc.len, List.drop_of_length_le (l := E.enc a) (by rw [Enc.len]; exact h1), List.nil_append]
      rw [show (k + 1) * E.sz - E.sz = k * E.sz by rw [Nat.add_mul]; omega]
/-- What a slice reads as, element by element. -/
def Rd (L : List HP) (A : Option Addr) (n : Nat) (l : List α) : Prop := Rc L E.sz A n (flat l)
theorem Rd.len {L : List HP} {A : Option Addr} {n : Nat} {l : List α} (hsz : 0 < E.sz) (h : Rd L A n l) : l.length = n := by
  have := h.1
  rw [flat_length] at this
  exact Nat.eq_of_mul_eq_mul_right hsz this
theorem Rd.skip {X : HP} {L : List HP} {A : Option Addr} {n : Nat} {l : List α} (h : Rd L A n l) : Rd (X :: L) A n l := Rc.skip h
theorem Rd.app {N L : List HP} {A : Option Addr} {n : Nat} {l : List α} (h : Rd L A n l) : Rd (N ++ L) A n l := Rc.app h
/-- An element that is there. -/
theorem Rd.at_ {L : List HP} {A : Option Addr} {n : Nat} {l : List α} (h : Rd L A n l) (hn : 0 < n) : ∃ b o, A = some ⟨b, o, none⟩ ∧ ∀ k a, l[k]? = some a → LdN L b (o + k * E.sz) E.sz (E.enc a) := by
  obtain ⟨b, o, e, f⟩ := h.2 hn
  exact ⟨b, o, e, fun k a hk => ⟨Enc.len a, fun j v hj => by rw [Nat.add_assoc]; exact f _ _ (flat_at hk j v hj)⟩⟩
theorem Rd.nil (L : List HP) (A : Option Addr) : Rd L A 0 ([] : List α) := ⟨by simp [flat], fun h => absurd h (Nat.lt_irrefl 0)⟩
theorem Rd.take {L : List HP} {A : Option Addr} {n : Nat} {l : List α} (h : Rd L A n l) {k : Nat} (hk : k ≤ n) : Rd L A k (l.take k) := by
  refine ⟨by rw [flat_take, List.length_take, h.1]; exact Nat.min_eq_left (Nat.mul_le_mul_right _ hk), fun h0 => ?_⟩
  obtain ⟨b, o, e, f⟩ := h.2 (by omega)
  refine ⟨b, o, e, fun j v hj => f j v ?_⟩
  rw [flat_take, List.getElem?_take] at hj
  split at hj
  · exact hj
  · cases hj
/-- From k on; 'c' is the capacity that the whole has. -/
theorem Rd.drop {L : List HP} {b o n : Nat} {l : List α} (h : Rd L (some ⟨b, o, none⟩) n l) {k c : Nat} (hk : k ≤ n) (hc : n ≤ c) : Rd L (some ⟨b, (if c = k then o else o + k * E.sz), none⟩) (n - k) (l.drop k) := by
  refine ⟨by rw [flat_drop, List.length_drop, h.1, Nat.sub_mul], fun h0 => ?_⟩
  obtain ⟨b', o', e, f⟩ := h.2 (by omega)
  simp only [Option.some.injEq, Addr.mk.injEq, and_true] at e
  obtain ⟨rfl, rfl⟩ := e
  refine ⟨b, o + k * E.sz, by rw [if_neg (by omega)], fun j v hj => ?_⟩
  rw [flat_drop, List.getElem?_drop] at hj
  rw [Nat.add_assoc]
  exact f _ _ hj
end

/-- A slice that the call has for itself: its array, whole. -/
structure own (e : TypeId) (sz : Nat) (A : Option Addr) (n c : Nat) (xs : List Value) (h : Hm) : Prop where
  len : xs.length = n * sz
  le : n ≤ c
  cap : c ≤ maxLen
  arr : (A = none ∧ n = 0 ∧ c = 0) ∨ ∃ b cur, A = some ⟨b, 0, none⟩ ∧ h b = some (.cells cur e (0, 0)) ∧ cur.size = c * sz ∧ cur.toList.take (n * sz) = xs
theorem own.facts {e sz n c : Nat} {A : Option Addr} {xs : List Value} {L : List HP} {h : Hm} (s : sat (own e sz A n c xs :: L) h) : xs.length = n * sz ∧ n ≤ c ∧ c ≤ maxLen ∧ ((A = none ∧ n = 0 ∧ c = 0) ∨ ∃ b, A = some ⟨b, 0, none⟩) := by
  obtain ⟨h1, h2, d, s1, s2, ⟨a1, a2, a3, a4⟩, l⟩ := s
  refine ⟨a1, a2, a3, ?_⟩
  rcases a4 with a4 | ⟨b, cur, e1, _⟩
  · exact .inl a4
  · exact .inr ⟨b, e1⟩
theorem Ld.own {L : List HP} {e sz n c b i : Nat} {xs : List Value} {v : Value} (hv : xs[i]? = some v) : Ld (own e sz (some ⟨b, 0, none⟩) n c xs :: L) ⟨b, i, none⟩ v := by
  constructor
  rintro h ⟨h1, h2, d, s1, s2, ⟨a1, a2, a3, a4⟩, l⟩
  rcases a4 with ⟨e1, _⟩ | ⟨b', cur, e1, e2, e3, e4⟩
  · cases e1
  · simp only [Option.some.injEq, Addr.mk.injEq, and_true] at e1
    subst e1
    have := s1 _ _ e2
    rw [← e4, List.getElem?_take] at hv
    split at hv
    · simp [cellOf, this]; simpa using hv
    · cases hv
theorem Rc.own {L : List HP} {e sz n c : Nat} {A : Option Addr} {xs : List Value} (hl : xs.length = n * sz) (hA : 0 < n → ∃ b, A = some ⟨b, 0, none⟩) : Rc (own e sz A n c xs :: L) sz A n xs :=
  ⟨hl, fun hn => let ⟨b, e⟩ := hA hn; ⟨b, 0, e, fun j v hj => by subst e; rw [Nat.zero_add]; exact Ld.own hj⟩⟩
theorem Rc.blk {L : List HP} {e sz b n : Nat} {cs : List Value} (hl : Nat.beq cs.length (n * sz) = true) : Rc (blk b e cs :: L) sz (some ⟨b, 0, none⟩) n cs :=
  ⟨Nat.eq_of_beq_eq_true hl, fun _ => ⟨b, 0, rfl, fun j v hj => by rw [Nat.zero_add]; exact Ld.blk hj⟩⟩
theorem one_all {ys : List Value} (h : ys.all (fun u => u.oneCell') = true) : ∀ u ∈ ys, u.oneCell' = true := by simpa using h
theorem flat_snoc {α : Type} [Enc α] (l : List α) (a : α) : flat l ++ Enc.enc a = flat (l ++ [a]) := by rw [flat_append, flat_cons, flat_nil, List.append_nil]
/-- An empty one, out of nothing. -/
theorem own.nil_ {L : List HP} (e sz : Nat) : ∀ h, sat L h → sat (own e sz none 0 0 [] :: L) h := fun h s =>
  ⟨fun _ => none, h, fun _ => .inl rfl, fun _ _ e => (by cases e), hSub.refl _, ⟨by simp, Nat.le_refl _, Nat.zero_le _, .inl ⟨rfl, rfl, rfl⟩⟩, s⟩
theorem own.of_blk {e sz b n : Nat} {cs : List Value} (hl : cs.length = n * sz) (hn : n ≤ maxLen) : ∀ h, blk b e cs h → own e sz (some ⟨b, 0, .none⟩) n n cs h := fun h k =>
  ⟨hl, Nat.le_refl _, hn,   .inr ⟨b, cs.toArray, rfl, k.eq, by simpa using hl, by rw [List.take_of_length_le]; simp [hl]⟩⟩

/-- One of the list's parts, and the others. -/
inductive Pick (X : HP) : List HP → List HP → Prop where
  | here {L : List HP} : Pick X (X :: L) L
  | skip {Y : HP} {L L' : List HP} (h : Pick X L L') : Pick X (Y :: L) (Y :: L')
theorem Pick.perm {X : HP} {L M : List HP} (h : Pick X L M) : L.Perm (X :: M) := by
  induction h with
  | here => exact .refl _
  | skip _ ih => exact (ih.cons _).trans (.swap _ _ _)

theorem en_app {N L M : List HP} (f : ∀ h, sat L h → sat M h) : ∀ h, sat (N ++ L) h → sat M h := by
  induction N with
  | nil => exact f
  | cons X N ih => exact fun h s => ih h s.tail
theorem en_refl {L : List HP} : ∀ h, sat L h → sat L h := fun _ s => s
theorem en_blk {b : Nat} {T : TypeId} {cs cs' : List Value} {L M N : List HP} (h : Pick (blk b T cs) L M) (e : cs = cs') (f : ∀ h, sat M h → sat N h) : ∀ h, sat L h → sat (blk b T cs' :: N) h := fun _ s => e ▸ (s.perm h.perm).cons_mono f
theorem en_own {e sz n c : Nat} {A : Option Addr} {xs xs' : List Value} {L M N : List HP} (h : Pick (own e sz A n c xs) L M) (ex : xs = xs') (f : ∀ h, sat M h → sat N h) : ∀ h, sat L h → sat (own e sz A n c xs' :: N) h := fun _ s => ex ▸ (s.perm h.perm).cons_mono f
theorem en_pick {X : HP} {L M N : List HP} (h : Pick X L M) (f : ∀ h, sat M h → sat N h) : ∀ h, sat L h → sat (X :: N) h := fun _ s => (s.perm h.perm).cons_mono f
section
variable {P : Program} {g : Glob} {L M : List HP} {σ : Env} {d : Option Nat} {ty T T' : TypeId} {pos : String} {aft : Array Edge} {gd : Option (Nat × Bool)} {x y z : Operand} {v u : Value}
theorem SliceT.zero {e sz by_ : Nat} {zs : List Value} (H : SliceT P T (e, sz, by_)) (HZ : ZeroT P e zs) : ∃ i zv, P.underlying T = some (.slice e) ∧ P.info? e = some i ∧ i.size = sz ∧ i.bytes = by_ ∧ i.zero = some zv ∧ zv.cells.size = zs.length := by
  obtain ⟨hu, i, hi, h1, h2⟩ := H.spec
  have hz := HZ.h
  cases hiz : i.zero with
  | none => rw [hi] at hz; simp [hiz] at hz
  | some zv => rw [hi] at hz; simp [hiz] at hz; exact ⟨i, zv, hu, hi, h1, h2, hiz, by rw [← hz]; simp⟩
/-- append, onto a slice of the call's own. -/
theorem eff_append {e sz by_ n c m q : Nat} {A B : Option Addr} {xs ys zs : List Value} [H : SliceT P T (e, sz, by_)] [HZ : ZeroT P e zs] (hx : ev σ x = some (.slice A n c)) (hy : ev σ y = some (.slice B m q))
    (hp : Pick (own e sz A n c xs) L M) (hr : Rc L sz B m ys) (h1 : ∀ u ∈ ys, u.oneCell' = true) (hz : Nat.beq zs.length sz = true) (h0 : 0 < sz) (hb : (n + m) * by_ ≤ 140737488355328) (hm : n + m ≤ 140737488355328) :
    Eff P g L σ ⟨d, .call ⟨.builtin .append, #[x, y], #[T, T]⟩, ty, pos, aft, gd⟩ fun r L' => ∃ A' c', r = .slice A' (n + m) c' ∧ n + m ≤ c' ∧ c' ≤ maxLen ∧ (0 < n + m → ∃ b, A' = some ⟨b, 0, none⟩) ∧ L' = own e sz A' (n + m) c' (xs ++ ys) :: M := fun a w hs hw K Q hK => by
  obtain ⟨i, zv, hu, hi, hsz, hby, hiz, hzv⟩ := H.zero HZ
  have hzs := Nat.eq_of_beq_eq_true hz
  have hw' : Hp g (own e sz A n c xs :: M) w := hw.mono fun _ => sat.perm hp.perm
  obtain ⟨k1, k2, dj, s1, s2, ⟨o1, o2, o3, o4⟩, l⟩ := hw'.s
  have hown : w.ownsRow 0 e sz (.slice A n c) n xs := by
    refine ⟨o1, ?_⟩
    rcases o4 with ⟨rfl, rfl, rfl⟩ | ⟨b, cur, rfl, e2, e3, e4⟩
    · exact .inl ⟨rfl, rfl⟩
    · exact .inr ⟨b, c, cur, rfl, Nat.zero_le _, s1 _ _ e2, o2, o3, e3, e4⟩
  have fin : ∀ v' w', w'.ownsRow 0 e sz v' (n + m) (xs ++ ys) → w.grownBy w' (Value.slice A n c).ownBlock → (v'.ownBlock = (Value.slice A n c).ownBlock ∨ v'.ownBlock = some w.heap.size) → (v' = .slice none 0 0 → n + m = 0) → K (a.put d v') w' := by
    intro v' w' ho hg hk hnil
    have hoth : ∀ k o, k2 k = some o → w'.hm k = some o ∧ some k ≠ v'.ownBlock := fun k o hko => by
      have hlt : k < w.heap.size := by
        have := s2 _ _ hko
        rcases Nat.lt_or_ge k w.heap.size with h' | h'
        · exact h'
        · simp [World.hm, Array.getElem?_eq_none h'] at this
      have hne : some k ≠ (Value.slice A n c).ownBlock := by
        intro e9
        rcases o4 with ⟨rfl, _⟩ | ⟨b, cur, rfl, e2, _⟩
        · simp [Value.ownBlock] at e9
        · simp [Value.ownBlock] at e9
          subst e9
          rcases dj k with h9 | h9
          · rw [e2] at h9; cases h9
          · rw [hko] at h9; cases h9
      refine ⟨by show w'.heap[k]? = _; rw [hg.block k hlt hne]; exact s2 _ _ hko, fun e9 => ?_⟩
      rcases hk with hk | hk
      · exact hne (e9.trans hk)
      · rw [hk] at e9; simp at e9; omega
    obtain ⟨l1, l2⟩ := ho
    have hglob : glob w' = g.base := by
      have := hw'.g
      rw [← this]
      simp [glob, hg.os, hg.tape, hg.output]
    rcases l2 with ⟨rfl, hn0⟩ | ⟨b, cap, cur, rfl, _, hb', h2, h3, h4, h5⟩
    · have e0 := hn0
      rw [← hn0]
      refine hK _ _ _ ⟨none, 0, by rw [e0], by omega, Nat.zero_le _, fun h9 => absurd h9 (by omega), rfl⟩ ⟨hglob, fun _ => none, k2, fun _ => .inl rfl, fun _ _ e => (by cases e), fun k o h => (hoth k o h).1, ⟨by rw [e0, l1, e0], by omega, Nat.zero_le _, .inl ⟨rfl, e0, rfl⟩⟩, l⟩
    · refine hK _ _ _ ⟨some ⟨b, 0, none⟩, cap, rfl, h2, h3, fun _ => ⟨b, rfl⟩, rfl⟩ ⟨hglob, fun k => if k = b then some (.cells cur e (0, 0)) else none, k2, fun k => ?_, fun k o e => ?_, fun k o h => (hoth k o h).1, ⟨l1, h2, h3, .inr ⟨b, cur, rfl, by simp, h4, h5⟩⟩, l⟩
      · by_cases hkb : k = b
        · right
          cases h9 : k2 k with
          | none => rfl
          | some o => exact absurd (by rw [hkb]; rfl) (hoth k o h9).2
        · left; simp [hkb]
      · replace e : (if k = b then some (Obj.cells cur _ (0, 0)) else none) = some o := e
        by_cases hkb : k = b
        · subst hkb; rw [if_pos rfl] at e; rw [← e]; exact hb'
        · rw [if_neg hkb] at e; cases e
  have h63 : n + m ≤ maxLen := by simp only [maxLen]; omega
  unfold Oper.wp
  have er : ∀ v' w', (Builtin.append_ #[T, T] ty #[.slice A n c, .slice B m q]).run P w = .ok v' w' → (execOp a.eval ⟨d, .call ⟨.builtin .append, #[x, y], #[T, T]⟩, ty, pos, aft, gd⟩).run P w = .ok (.value v') w' := by
    intro v' w' h9
    simp only [execOp, resolve, List.map_toArray, List.map_cons, List.map_nil, hs.eval hx, hs.eval hy]
    simp only [Sem.run_bind, Sem.run_pure, Result.andThen_ok, invoke, builtin, h9]
  rcases Nat.eq_zero_or_pos m with rfl | hm0
  · have hys : ys = [] := List.eq_nil_of_length_eq_zero (by simpa using hr.1)
    subst hys
    rcases B with _ | ad
    · have hrun : (Builtin.append_ #[T, T] ty #[.slice A n c, .slice none 0 q]).run P w = .ok (.slice A n c) w := by
        rcases o4 with ⟨rfl, rfl, rfl⟩ | ⟨b, cur, rfl, _⟩
        · simp [Builtin.append_, run_underlying hu, sizeOf, typeInfo, hi, Builtin.lenOf, Builtin.firstCells]
        · simp [Builtin.append_, run_underlying hu, sizeOf, typeInfo, hi, Builtin.lenOf, Builtin.firstCells, o2, storeCells]
      rw [er _ _ hrun]
      refine fin _ _ (by simpa using hown) ⟨rfl, rfl, rfl, Nat.le_refl _, fun _ _ _ => rfl⟩ (.inl rfl) fun e9 => ?_
      simp only [Value.slice.injEq] at e9
      omega
    · obtain ⟨v', w', h2, h3, h4, h5, h6⟩ := run_append_own_at (P := P) w 0 T ty e i zv sz by_ hu hi hiz hsz hby (by rw [hzv, hzs]) h0 (.slice A n c) n xs hown ad 0 q [] (by simp) (by simp) (by simp) h63 hb (Nat.zero_le _)
      rw [er _ _ h2]
      refine fin _ _ h3 h4 h6 fun e9 => ?_
      have := h5.1 e9
      simp only [Value.slice.injEq] at this
      omega
  · obtain ⟨b, o, rfl, hc⟩ := hr.2 hm0
    obtain ⟨v', w', h2, h3, h4, h5, h6⟩ := run_append_own_at (P := P) w 0 T ty e i zv sz by_ hu hi hiz hsz hby (by rw [hzv, hzs]) h0 (.slice A n c) n xs hown ⟨b, o, none⟩ m q ys hr.1 (fun j u hu => by
      rw [Addr.add_lit]; exact (hc j u hu).1 _ hw.s) h1 h63 hb (Nat.zero_le _)
    rw [er _ _ h2]
    refine fin _ _ h3 h4 h6 fun e9 => ?_
    have := h5.1 e9
    simp only [Value.slice.injEq] at this
    omega
theorem eff_buildSlice0 {e sz by_ : Nat} {zs : List Value} [H : SliceT P T (e, sz, by_)] [HZ : ZeroT P e zs] : Eff P g L σ ⟨d, .buildSlice T 0 #[], ty, pos, aft, gd⟩ fun r L' => ∃ b, r = .slice (some ⟨b, 0, none⟩) 0 0 ∧ L' = own e sz (some ⟨b, 0, none⟩) 0 0 [] :: L := fun a w hs hw K Q hK => by
  refine eff_buildSlice (P := P) (T := T) (H := H) (HZ := HZ) (L := L) (g := g) (σ := σ) (d := d) (ty := ty) (pos := pos) (aft := aft) (gd := gd) (n := 0) (cs := []) (ps := []) (pv := []) (.inl ⟨rfl, rfl, rfl⟩) a w hs hw K Q fun v w' L' ⟨b, h1, h2⟩ hw' => ?_
  subst h2
  exact hK v w' _ ⟨b, h1, rfl⟩ ⟨hw'.g, sat.fold (N := [blk b e []]) (fun h s => by obtain ⟨k1, k2, _, s1, _, a, _⟩ := s; exact own.of_blk (e := e) (sz := sz) (n := 0) (b := b) (cs := []) (by simp) (Nat.zero_le _) h ⟨s1 _ _ a.eq⟩) hw'.s⟩
end
theorem Ld.mono {L M : List HP} (f : ∀ h, sat M h → sat L h) {a : Addr} {v : Value} (h : Ld L a v) : Ld M a v := ⟨fun _ s => h.1 _ (f _ s)⟩
theorem LdN.mono {L M : List HP} (f : ∀ h, sat M h → sat L h) {b o n : Nat} {vs : List Value} (h : LdN L b o n vs) : LdN M b o n vs := ⟨h.1, fun j v hj => (h.2 j v hj).mono f⟩
theorem LdN.app {N L : List HP} {b o n : Nat} {vs : List Value} (h : LdN L b o n vs) : LdN (N ++ L) b o n vs := ⟨h.1, fun j v hj => (h.2 j v hj).app⟩
theorem Rc.mono {L M : List HP} (f : ∀ h, sat M h → sat L h) {sz n : Nat} {A : Option Addr} {xs : List Value} (h : Rc L sz A n xs) : Rc M sz A n xs :=
  ⟨h.1, fun hn => let ⟨b, o, e, g⟩ := h.2 hn; ⟨b, o, e, fun j v hj => (g j v hj).mono f⟩⟩
theorem Rd.mono {α : Type} [Enc α] {L M : List HP} (f : ∀ h, sat M h → sat L h) {n : Nat} {A : Option Addr} {l : List α} (h : Rd L A n l) : Rd M A n l := Rc.mono f h
theorem Upd.app {N L L' : List HP} {b i : Nat} {vs : List Value} (h : Upd b i vs L L') : Upd b i vs (N ++ L) (N ++ L') := by
  induction N with
  | nil => exact h
  | cons A N ih => exact .skip ih
theorem Pick.app {N L L' : List HP} {X : HP} (h : Pick X L L') : Pick X (N ++ L) (N ++ L') := by
  induction N with
  | nil => exact h
  | cons A N ih => exact .skip ih
theorem en_appk {N L M : List HP} (f : ∀ h, sat L h → sat M h) : ∀ h, sat (N ++ L) h → sat (N ++ M) h := by
  induction N with
  | nil => exact f
  | cons A N ih => exact en_keep ih
/-- Some parts, as one. -/
def pk (N : List HP) : HP := fun h => sat N h
theorem en_pack {K L M : List HP} (f : ∀ h, sat L h → sat M h) : ∀ h, sat (K ++ L) h → sat (pk K :: M) h := fun _ s => (en_keep f) _ (sat.join s)
theorem en_unpack {K L M : List HP} (f : ∀ h, sat (K ++ L) h → sat M h) : ∀ h, sat (pk K :: L) h → sat M h := fun _ s => f _ (sat.part s)
end Go.Proofs.Ytmgkmammkmlakaa
