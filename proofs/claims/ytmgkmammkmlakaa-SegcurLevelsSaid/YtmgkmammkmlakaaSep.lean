/- Parts of the heap, told one by one. No program stands in this text. -/
import Derived.WalkKit
import Derived.Deep.Draws
namespace Go.Proofs.Ytmgkmammkmlakaa
open Go.RowKit

/-- A part of the heap: some of the blocks. -/
abbrev Hm := Nat → Option Obj
/-- What is told of a part. -/
abbrev HP := Hm → Prop
def hSub (h h' : Hm) : Prop := ∀ k o, h k = some o → h' k = some o
def hDisj (h h' : Hm) : Prop := ∀ k, h k = none ∨ h' k = none
/-- All of a list is so, each of a part of its own. -/
def sat : List HP → Hm → Prop
  | [], _ => True
  | A :: L, h => ∃ h1 h2, hDisj h1 h2 ∧ hSub h1 h ∧ hSub h2 h ∧ A h1 ∧ sat L h2

theorem hSub.refl (h : Hm) : hSub h h := fun _ _ e => e
theorem hSub.trans {a b c : Hm} (h : hSub a b) (k : hSub b c) : hSub a c := fun i o e => k i o (h i o e)
theorem hDisj.symm {a b : Hm} (h : hDisj a b) : hDisj b a := fun k => (h k).symm
theorem hDisj.sub {a b a' b' : Hm} (h : hDisj a b) (ha : hSub a' a) (hb : hSub b' b) : hDisj a' b' := fun k => by
  rcases h k with e | e
  · left; cases h' : a' k with
    | none => rfl
    | some o => rw [ha k o h'] at e; cases e
  · right; cases h' : b' k with
    | none => rfl
    | some o => rw [hb k o h'] at e; cases e

theorem sat.up {L : List HP} {h h' : Hm} (s : sat L h) (hh : hSub h h') : sat L h' := by
  cases L with
  | nil => trivial
  | cons A L =>
    obtain ⟨h1, h2, d, s1, s2, a, l⟩ := s
    exact ⟨h1, h2, d, s1.trans hh, s2.trans hh, a, l⟩
theorem sat.tail {A : HP} {L : List HP} {h : Hm} (s : sat (A :: L) h) : sat L h := by
  obtain ⟨h1, h2, d, s1, s2, a, l⟩ := s
  exact l.up s2
theorem sat.swap {A B : HP} {L : List HP} {h : Hm} (s : sat (A :: B :: L) h) : sat (B :: A :: L) h := by
  obtain ⟨h1, h2, d, s1, s2, a, k1, k2, d', t1, t2, b, l⟩ := s
  have d1 : hDisj h1 k1 := d.sub (hSub.refl _) t1
  have d2 : hDisj h1 k2 := d.sub (hSub.refl _) t2
  let m : Hm := fun k => (h1 k).or (k2 k)
  have m1 : hSub h1 m := fun k o e => by simp [m, e]
  have m2 : hSub k2 m := fun k o e => by
    rcases d2 k with e' | e'
    · simp [m, e', e]
    · rw [e] at e'; cases e'
  refine ⟨k1, m, fun k => ?_, t1.trans s2, fun k o e => ?_, b, h1, k2, d2, m1, m2, a, l⟩
  · rcases d1 k with e | e
    · rcases d' k with e' | e'
      · exact .inl e'
      · right; simp [m, e, e']
    · exact .inl e
  · have e' : (h1 k).or (k2 k) = some o := e
    cases h9 : h1 k with
    | none => rw [h9] at e'; exact s2 k o (t2 k o (by simpa using e'))
    | some o' => rw [h9] at e'; exact s1 k o (by rw [h9]; simpa using e')
theorem sat.cons_mono {A : HP} {L L' : List HP} (f : ∀ h, sat L h → sat L' h) {h : Hm} (s : sat (A :: L) h) : sat (A :: L') h := by
  obtain ⟨h1, h2, d, s1, s2, a, l⟩ := s
  exact ⟨h1, h2, d, s1, s2, a, f _ l⟩
theorem sat.perm {L L' : List HP} (p : L.Perm L') : ∀ {h : Hm}, sat L h → sat L' h := by
  induction p with
  | nil => exact fun s => s
  | cons A _ ih => exact fun s => s.cons_mono fun _ => ih
  | swap A B L => exact fun s => s.swap
  | trans _ _ i1 i2 => exact fun s => i2 (i1 s)
/-- The first is taken for others. -/
theorem sat.head {A : HP} {N L : List HP} (f : ∀ h, A h → sat N h) {h : Hm} (s : sat (A :: L) h) : sat (N ++ L) h := by
  obtain ⟨h1, h2, d, s1, s2, a, l⟩ := s
  have n := f _ a
  clear a f
  revert n
  induction N generalizing h1 h with
  | nil => exact fun _ => l.up s2
  | cons B N ih =>
    rintro ⟨k1, k2, d', t1, t2, b, n⟩
    have d1 : hDisj k1 h2 := d.sub t1 (hSub.refl _)
    have d2 : hDisj k2 h2 := d.sub t2 (hSub.refl _)
    let m : Hm := fun k => (k2 k).or (h2 k)
    have m1 : hSub k2 m := fun k o e => by simp [m, e]
    have m2 : hSub h2 m := fun k o e => by
      rcases d2 k with e' | e'
      · simp [m, e', e]
      · rw [e] at e'; cases e'
    refine ⟨k1, m, fun k => ?_, t1.trans s1, fun k o e => ?_, b, ih (h1 := k2) (h := m) d2 m1 m2 n⟩
    · rcases d' k with e | e
      · exact .inl e
      · rcases d1 k with e' | e'
        · exact .inl e'
        · right; simp [m, e, e']
    · have e' : (k2 k).or (h2 k) = some o := e
      cases h9 : k2 k with
      | none => rw [h9] at e'; exact s2 k o (by simpa using e')
      | some o' => rw [h9] at e'; exact s1 k o (t2 k o (by rw [h9]; simpa using e'))
/-- A list's parts, all of them together as one, and the others. -/
theorem sat.split {N L : List HP} {h : Hm} (s : sat (N ++ L) h) : ∃ h1 h2, hDisj h1 h2 ∧ hSub h1 h ∧ hSub h2 h ∧ sat N h1 ∧ sat L h2 := by
  induction N generalizing h with
  | nil => exact ⟨fun _ => none, h, fun _ => .inl rfl, fun _ _ e => (by cases e), hSub.refl _, trivial, s⟩
  | cons B N ih =>
    obtain ⟨k1, k2, d, t1, t2, b, n⟩ := s
    obtain ⟨j1, j2, d', u1, u2, nn, l⟩ := ih n
    have d1 : hDisj k1 j1 := d.sub (hSub.refl _) u1
    have d2 : hDisj k1 j2 := d.sub (hSub.refl _) u2
    let m : Hm := fun k => (k1 k).or (j1 k)
    have m1 : hSub k1 m := fun k o e => by simp [m, e]
    have m2 : hSub j1 m := fun k o e => by
      rcases d1 k with e' | e'
      · simp [m, e', e]
      · rw [e] at e'; cases e'
    refine ⟨m, j2, fun k => ?_, fun k o e => ?_, u2.trans t2, ⟨k1, j1, d1, m1, m2, b, nn⟩, l⟩
    · rcases d2 k with e | e
      · rcases d' k with e' | e'
        · left; simp [m, e, e']
        · exact .inr e'
      · exact .inr e
    · have e' : (k1 k).or (j1 k) = some o := e
      cases h9 : k1 k with
      | none => rw [h9] at e'; exact t2 k o (u1 k o (by simpa using e'))
      | some o' => rw [h9] at e'; exact t1 k o (by rw [h9]; simpa using e')
/-- Some are told as one. -/
theorem sat.fold {A : HP} {N L : List HP} (f : ∀ h, sat N h → A h) {h : Hm} (s : sat (N ++ L) h) : sat (A :: L) h := by
  obtain ⟨h1, h2, d, s1, s2, n, l⟩ := s.split
  exact ⟨h1, h2, d, s1, s2, f _ n, l⟩

/-! What is read. -/
def cellOf (h : Hm) (a : Addr) : Option Value :=
  match h a.block with
  | some (.cells c _ _) => if a.spot.isSome then none else c[a.off]?
  | _ => none
def frozenOf (h : Hm) (a : Addr) : Bool :=
  match h a.block with
  | some (.cells _ _ (lo, hi)) => lo ≤ a.off && a.off < hi
  | _ => false
theorem cellOf.sub {h h' : Hm} {a : Addr} {v : Value} (e : cellOf h a = some v) (s : hSub h h') : cellOf h' a = some v := by
  unfold cellOf at *
  cases hb : h a.block with
  | none => rw [hb] at e; cases e
  | some o => rw [s _ _ hb]; rw [hb] at e; exact e

/-- In whatever heap the list is true of, the address holds the value. -/
structure Ld (L : List HP) (a : Addr) (v : Value) : Prop where
  get : ∀ h, sat L h → cellOf h a = some v
/-- In whatever heap the list is true of, the address's block is this one. -/
def Has (L : List HP) (b : Nat) (o : Obj) : Prop := ∀ h, sat L h → h b = some o

/-- A block, whole. -/
structure blk (b : Nat) (T : TypeId) (cs : List Value) (h : Hm) : Prop where
  eq : h b = some (.cells cs.toArray T (0, 0))
/-- All of a heap, as it was. -/
def old (h0 : Hm) : HP := fun h => hSub h0 h
/-- Nothing is told. -/
theorem Ld.skip {A : HP} {L : List HP} {a : Addr} {v : Value} (h : Ld L a v) : Ld (A :: L) a v := ⟨fun _ s => h.1 _ s.tail⟩
theorem Ld.blk {L : List HP} {b i : Nat} {T : TypeId} {cs : List Value} {v : Value} (h : cs[i]? = some v) : Ld (blk b T cs :: L) ⟨b, i, none⟩ v := by
  constructor
  rintro hh ⟨h1, h2, d, s1, s2, a, l⟩
  have : hh b = some (.cells cs.toArray T (0, 0)) := s1 _ _ a.eq
  simp [cellOf, this, h]
theorem Ld.old {L : List HP} {h0 : Hm} {a : Addr} {v : Value} (h : cellOf h0 a = some v) : Ld (old h0 :: L) a v := by
  constructor
  rintro hh ⟨h1, h2, d, s1, s2, o, l⟩
  exact cellOf.sub (cellOf.sub h o) s1
theorem Ld.perm {L L' : List HP} {a : Addr} {v : Value} (p : L'.Perm L) (h : Ld L a v) : Ld L' a v := ⟨fun _ s => h.1 _ (s.perm p)⟩
theorem Ld.app {N L : List HP} {a : Addr} {v : Value} (h : Ld L a v) : Ld (N ++ L) a v := by
  induction N with
  | nil => exact h
  | cons A N ih => exact ih.skip

def _root_.Go.World.hm (w : World) : Hm := fun k => w.heap[k]?
theorem cell?_hm (w : World) (a : Addr) : w.cell? a = cellOf w.hm a := rfl
theorem frozen?_hm (w : World) (a : Addr) : w.frozen? a = frozenOf w.hm a := rfl

/-- The streams, which nothing here moves. -/
structure Glob where
  os : Os
  tape : Nat → Question → Nat
  output : Array (Nat × ByteArray)
  dfs : List Deferred := []
  rnd : Option Nat := none
def glob (w : World) : Glob := ⟨w.os, w.tape, w.output, [], none⟩
/-- The streams alone. -/
def Glob.base (g : Glob) : Glob := ⟨g.os, g.tape, g.output, [], none⟩
/-- What is told of a world. -/
structure Hp (g : Glob) (L : List HP) (w : World) : Prop where
  g : glob w = g.base
  s : sat L w.hm

theorem Hp.base {g : Glob} {L : List HP} {w : World} (h : Hp g L w) : Hp g.base L w := ⟨h.g, h.s⟩
theorem Hp.of_base {g : Glob} {L : List HP} {w : World} (h : Hp g.base L w) : Hp g L w := ⟨h.g, h.s⟩
theorem Hp.mono {g : Glob} {L L' : List HP} (f : ∀ h, sat L h → sat L' h) {w : World} (h : Hp g L w) : Hp g L' w := ⟨h.g, f _ h.s⟩
theorem Hp.cell {g : Glob} {L : List HP} {w : World} {a : Addr} {v : Value} (h : Hp g L w) (l : Ld L a v) : w.cell? a = some v := l.1 _ h.s
theorem Hp.drew {g : Glob} {L : List HP} {w : World} (h : Hp g L w) : Hp g L w.drew := ⟨h.g, h.s⟩
theorem Hp.blk_heap {g : Glob} {L : List HP} {w : World} {b : Nat} {T : TypeId} {cs : List Value} (h : Hp g (blk b T cs :: L) w) : w.heap[b]? = some (.cells cs.toArray T (0, 0)) := by
  obtain ⟨h1, h2, d, s1, s2, a, l⟩ := h.s
  exact s1 _ _ a.eq
theorem Hp.blk_frozen {g : Glob} {L : List HP} {w : World} {b i : Nat} {T : TypeId} {cs : List Value} (h : Hp g (blk b T cs :: L) w) : w.frozen? ⟨b, i, none⟩ = false := by
  simp [World.frozen?, h.blk_heap]

theorem Hp.alloc {g : Glob} {L : List HP} {w : World} (h : Hp g L w) (T : TypeId) (cs : List Value) : Hp g (blk w.heap.size T cs :: L) (w.alloc (.cells cs.toArray T (0, 0))) := by
  refine ⟨h.g, fun k => if k = w.heap.size then some (.cells cs.toArray T (0, 0)) else none, w.hm, fun k => ?_, fun k o e => ?_, fun k o e => ?_, ⟨by simp⟩, h.s⟩
  · by_cases hk : k = w.heap.size
    · right; subst hk; simp [World.hm]
    · left; simp [hk]
  · replace e : (if k = w.heap.size then some (Obj.cells cs.toArray T) else none) = some o := e
    by_cases hk : k = w.heap.size
    · subst hk
      rw [if_pos rfl] at e
      show (w.heap.push _)[_]? = _
      simpa using e
    · rw [if_neg hk] at e; cases e
  · have hk : k < w.heap.size := by
      rcases Nat.lt_or_ge k w.heap.size with h' | h'
      · exact h'
      · simp [World.hm, Array.getElem?_eq_none h'] at e
    show (w.heap.push _)[k]? = _
    rw [Array.getElem?_push, if_neg (by omega)]
    exact e

theorem Hp.store {g : Glob} {L : List HP} {w : World} {b i : Nat} {T : TypeId} {cs : List Value} (h : Hp g (blk b T cs :: L) w) (v : Value) : Hp g (blk b T (cs.set i v) :: L) (w.setCell ⟨b, i, none⟩ v) := by
  have hb := h.blk_heap
  have hlt : b < w.heap.size := by
    rcases Nat.lt_or_ge b w.heap.size with h' | h'
    · exact h'
    · rw [Array.getElem?_eq_none h'] at hb; cases hb
  obtain ⟨h1, h2, d, s1, s2, a, l⟩ := h.s
  have a' : h1 b = some (.cells cs.toArray T (0, 0)) := a.eq
  have hne : ∀ k, k ≠ b → (w.setCell ⟨b, i, none⟩ v).hm k = w.hm k := fun k hk => Below.heap_setCell w ⟨b, i, none⟩ v k hk
  have heq : (w.setCell ⟨b, i, none⟩ v).hm b = some (.cells (cs.set i v).toArray T (0, 0)) := by
    show (w.heap.modify b _)[b]? = _
    rw [Array.getElem?_modify, if_pos rfl, hb]
    simp
  refine ⟨h.g, fun k => if k = b then some (.cells (cs.set i v).toArray T (0, 0)) else none, h2, fun k => ?_, fun k o e => ?_, fun k o e => ?_, ⟨by simp⟩, l⟩
  · by_cases hk : k = b
    · right
      rcases d k with e | e
      · rw [hk, a'] at e; cases e
      · exact e
    · left; simp [hk]
  · replace e : (if k = b then some (Obj.cells (cs.set i v).toArray T (0, 0)) else none) = some o := e
    by_cases hk : k = b
    · subst hk
      rw [if_pos rfl] at e
      rw [heq]; exact e
    · rw [if_neg hk] at e; cases e
  · by_cases hk : k = b
    · rcases d k with e' | e'
      · rw [hk, a'] at e'; cases e'
      · rw [e'] at e; cases e
    · rw [hne k hk]; exact s2 k o e

/-- Where all began, and where it ended: nothing old has turned. -/
theorem Hp.start (w : World) : Hp (glob w) [old w.hm] w := ⟨rfl, w.hm, fun _ => none, fun _ => .inr rfl, hSub.refl _, fun _ _ e => (by cases e), hSub.refl _, trivial⟩
theorem Hp.below {w w' : World} {L : List HP} (h : Hp (glob w) (old w.hm :: L) w') : Below w.heap.size w w' := by
  obtain ⟨h1, h2, d, s1, s2, a, l⟩ := h.s
  have hb : ∀ k, k < w.heap.size → w'.heap[k]? = w.heap[k]? := fun k hk => by
    have e : w.hm k = some w.heap[k] := by simp [World.hm, hk]
    have := s1 _ _ (a _ _ e)
    rw [show w.heap[k]? = some w.heap[k] by simp [hk]]
    exact this
  have hg := h.g
  refine ⟨congrArg Glob.os hg, congrArg Glob.tape hg, congrArg Glob.output hg, ?_, hb⟩
  rcases Nat.lt_or_ge w'.heap.size w.heap.size with h' | h'
  · have := hb _ h'
    simp [h'] at this
  · exact h'
end Go.Proofs.Ytmgkmammkmlakaa
