/- Texts of the law LogmApart, one behind the other. -/
import Derived.WalkKit
import Derived.Deep.Draws
import Derived.Deep.Slices
import Derived.Deep.AppendLies
import Derived.Maps.AppendAt
import Derived.WideShapes
import Derived.ProofKit
import Derived.Lib.Hide
import Derived.BigQuiet
import Derived.Test.YtkoncepjfgnjlaaGreatRows
import Derived.OpenShut
import Derived.OrdersHeld
import Derived.OrdersIn
import Derived.TacticsIn
import Derived.IntWalk
import Derived.Lib.Overlaps
import Derived.Lib.AppendZeros
import Derived.Test.YtkoncepjfgnjlaaGreatProg
import Derived.Sort.Grow
/- Words for memory: what a slice reads as, and what a call keeps. No program stands in this text. -/
namespace Go.Proofs.YtkoncepjfgnjlaaGreat
open Go.RowKit

/-- What was there before is as it was, but for the blocks of S. -/
structure Keep (S : Nat → Prop) (w w' : World) : Prop where
  os : w'.os = w.os
  tape : w'.tape = w.tape
  output : w'.output = w.output
  size : w.heap.size ≤ w'.heap.size
  block : ∀ k, k < w.heap.size → ¬ S k → w'.heap[k]? = w.heap[k]?

/-- No block at all. -/
def noBlk : Nat → Prop := fun _ => False
/-- The blocks of a list. -/
def inL (l : List Nat) : Nat → Prop := fun k => k ∈ l

section
variable {S S' : Nat → Prop} {a w w' w'' : World}
theorem Keep.refl (S : Nat → Prop) (w : World) : Keep S w w := ⟨rfl, rfl, rfl, Nat.le_refl _, fun _ _ _ => rfl⟩
/-- Two steps: what the second one may turn is old only where the first one's was. -/
theorem Keep.trans' (h : Keep S w w') (k : Keep S' w' w'') (hs : ∀ i, S' i → i < w.heap.size → S i) : Keep S w w'' :=
  ⟨k.os.trans h.os, k.tape.trans h.tape, k.output.trans h.output, Nat.le_trans h.size k.size, fun i hi hn =>
    (k.block i (Nat.lt_of_lt_of_le hi h.size) (fun h' => hn (hs i h' hi))).trans (h.block i hi hn)⟩
theorem Keep.trans (h : Keep S w w') (k : Keep S w' w'') : Keep S w w'' := h.trans' k fun _ hs _ => hs
theorem Keep.mono (h : Keep S w w') (hs : ∀ i, i < w.heap.size → S i → S' i) : Keep S' w w' := ⟨h.os, h.tape, h.output, h.size, fun i hi hn => h.block i hi fun h' => hn (hs i hi h')⟩
theorem Keep.drew (h : Keep S a w) : Keep S a w.drew := ⟨h.os, h.tape, h.output, h.size, h.block⟩
theorem Keep.alloc (h : Keep S a w) (o : Obj) : Keep S a (w.alloc o) :=
  h.trans ⟨rfl, rfl, rfl, by simp, fun k hk _ => Below.heap_alloc _ _ _ hk⟩
theorem Keep.setCell (h : Keep S a w) {p : Addr} (hp : p.block < a.heap.size → S p.block) (u : Value) : Keep S a (w.setCell p u) :=
  h.trans' (S' := fun k => k = p.block) ⟨rfl, rfl, rfl, by simp [World.setCell], fun k _ hk => Below.heap_setCell _ _ _ _ hk⟩ (fun i hi hlt => by subst hi; exact hp hlt)
theorem Keep.below (h : Keep noBlk w w') : Below w.heap.size w w' := ⟨h.os, h.tape, h.output, h.size, fun k hk => h.block k hk id⟩
theorem Keep.cell (h : Keep S w w') {p : Addr} (hp : p.block < w.heap.size) (hs : ¬ S p.block) : w'.cell? p = w.cell? p := World.cell?_of_block (w := w) (h.block _ hp hs)
theorem Keep.frozen (h : Keep S w w') {p : Addr} (hp : p.block < w.heap.size) (hs : ¬ S p.block) : w'.frozen? p = w.frozen? p := World.frozen?_of_block (w := w) (h.block _ hp hs)
end

/-! A slice that reads as a list of cells: nil and empty let in. -/
def Reads (w : World) (size : Nat) (A : Option Addr) (n : Nat) (xs : List Value) : Prop :=
  xs.length = n * size ∧ (0 < n * size → ∃ b off, A = some ⟨b, off, none⟩ ∧ b < w.heap.size ∧ ∀ j (hj : j < xs.length), w.cell? ⟨b, off + j, none⟩ = some xs[j])

section
variable {S : Nat → Prop} {w w' : World} {size n : Nat} {A : Option Addr} {xs : List Value}
theorem Reads.nil_ (w : World) (size : Nat) (A : Option Addr) : Reads w size A 0 [] := ⟨by simp, fun h => by simp at h⟩
theorem Reads.keep (h : Reads w size A n xs) (k : Keep S w w') (hs : ∀ a, A = some a → ¬ S a.block) : Reads w' size A n xs :=
  ⟨h.1, fun h0 => by
    obtain ⟨b, off, rfl, hb, hc⟩ := h.2 h0
    exact ⟨b, off, rfl, Nat.lt_of_lt_of_le hb k.size, fun j hj => (k.cell (p := ⟨b, off + j, none⟩) hb (hs ⟨b, off, none⟩ rfl)).trans (hc j hj)⟩⟩
theorem Reads.kept (h : Reads w size A n xs) (k : Keep noBlk w w') : Reads w' size A n xs := h.keep k fun _ _ => id
theorem Reads.at_ {k : Nat} (h : Reads w 1 A n xs) (hk : k < n) : ∃ b off, A = some ⟨b, off, none⟩ ∧ b < w.heap.size ∧ ∃ hx : k < xs.length, w.cell? ⟨b, off + k, none⟩ = some xs[k] := by
  obtain ⟨b, off, rfl, hb, hc⟩ := h.2 (by omega)
  have hx : k < xs.length := by have := h.1; omega
  exact ⟨b, off, rfl, hb, hx, hc k hx⟩
theorem Reads.take (h : Reads w size A n xs) {k : Nat} (hk : k ≤ n) : Reads w size A k (xs.take (k * size)) := by
  refine ⟨by rw [List.length_take, h.1]; exact Nat.min_eq_left (Nat.mul_le_mul_right _ hk), fun h0 => ?_⟩
  obtain ⟨b, off, rfl, hb, hc⟩ := h.2 (Nat.lt_of_lt_of_le h0 (Nat.mul_le_mul_right _ hk))
  refine ⟨b, off, rfl, hb, fun j hj => ?_⟩
  have hj2 : j < xs.length := by simp at hj; omega
  rw [List.getElem_take]
  exact hc j hj2
end

/-! append onto a row of the call's own, the source nil, empty or not. -/
section
variable {P : Program} {w : World}

end

/-- Numbers of 64 bits. -/
def Ints (ns : List Int) : Prop := ∀ n ∈ ns, -9223372036854775808 ≤ n ∧ n ≤ 9223372036854775807
def ints (ns : List Int) : List Value := ns.map (Value.int .i64)
/-! The greater and the lesser of two, taken by the walk as one number. -/
def maxI (x y : Int) : Int := if y > x then y else x
def minI (x y : Int) : Int := if y < x then y else x
/-- A cell that was there is there still. -/
theorem Keep.hold {w w1 : World} (h : Keep noBlk w w1) {p : Addr} {v : Value} (hc : w.cell? p = some v) : w1.cell? p = some v := by
  have hb : p.block < w.heap.size := by
    rcases Nat.lt_or_ge p.block w.heap.size with hlt | hge
    · exact hlt
    · have := World.cell?_of_block (w := w) (w' := { w with heap := #[] }) (a := p) (by rw [Array.getElem?_eq_none hge]; simp)
      rw [hc] at this
      simp [World.cell?] at this
  rw [h.cell hb id]; exact hc
/-- What a callee's world keeps, in the walk's words. -/
theorem Keep.rules {W w1 : World} (h : Keep noBlk W w1) : (∀ b o, b < W.heap.size → w1.cell? ⟨b, o, none⟩ = W.cell? ⟨b, o, none⟩) ∧ (∀ b o, b < W.heap.size → w1.frozen? ⟨b, o, none⟩ = W.frozen? ⟨b, o, none⟩) ∧ W.heap.size ≤ w1.heap.size :=
  ⟨fun b o hb => h.cell (p := ⟨b, o, none⟩) hb id, fun b o hb => h.frozen (p := ⟨b, o, none⟩) hb id, h.size⟩

/-! A region that draws its order, whose operations read, and whose callees keep what a class of worlds asks: one walk in the order of the text. -/
end Go.Proofs.YtkoncepjfgnjlaaGreat
/- The frame of a law: from a walk that returns true and writes nothing that was there before, to the law's row; and how arguments of plain numbers are opened. -/
namespace Go.Proofs.YtkoncepjfgnjlaaGreat
open Go.ChangeShapes Go.WideShapes Go.ChangeAt Go.RowKit Go.Deep

section
variable {H : Type} {enc : TypeId × Value → H} {P : Program}

/-- Arguments read the same again in a world that keeps all that was there. -/
theorem all_again (hl : laidOutB P = true) {W W' : World} (hb : Below W.heap.size W W') : ∀ (ts : List TypeId) (vs : List Value) (ds : List (DataW H)) (ps : List MemPlace),
    (ts.all fun t => P.readableRec t && decide (t < P.types.size)) = true → DataW.TrodAll enc P W 0 (fun _ => true) true ts vs ds ps → (∀ x ∈ ps, x.block < W.heap.size) →
    DataW.TrodAll enc P W' 0 (fun b => decide (b < W.heap.size)) true ts vs ds ps := by
  intro ts
  induction ts with
  | nil =>
    intro vs ds ps _ h _
    obtain ⟨rfl, rfl, rfl⟩ := trodAll_nil h
    exact trodAll_mk0
  | cons t ts ih =>
    intro vs ds ps ht h hlt
    obtain ⟨v, vs', d, ds', p, q, rfl, rfl, rfl, h0, hr⟩ := trodAll_cons h
    rw [List.all_cons, Bool.and_eq_true, Bool.and_eq_true] at ht
    exact trodAll_cons_mk (Below.trod hl ht.1.1 (of_decide_eq_true ht.1.2) h0 hb (fun x hx => hlt x (List.mem_append.2 (.inl hx)))) (ih _ _ _ ht.2 hr (fun x hx => hlt x (List.mem_append.2 (.inr hx))))

/-- The row's last step for a law: it returned true, and all that was there reads as it did. -/
theorem law_post (hl : laidOutB P = true) {f : Func} {s : ChangeSpec} {W W' : World} {args : Array Value} {ds : List (DataW H)} {before : List MemPlace} {tb : TypeId} (hvars : s.vars = []) (hres : f.resultTypes = #[tb]) (htb : P.underlying tb = some .bool)
    (ht : (f.params.toList.all fun t => P.readableRec t && decide (t < P.types.size)) = true)
    (hW : DataW.Whole enc P f.params.toList s.vars false W args.toList ds [] before)
    (hs : s.fn H (ds ++ []) = { results := [.lit (.bool true)], args := ds }) (hb : Below W.heap.size W W') :
    s.post enc P f false true false false W args (.bool true) W' := by
  have hlt : ∀ p ∈ before, p.block < W.heap.size := hW.lt
  have hW2 := hW
  obtain ⟨p, q, hA, hV, rfl, _, _⟩ := hW
  rw [hvars] at hV
  obtain ⟨_, rfl⟩ := trodVars_none hV
  refine ⟨ds, [], p ++ [], [], p, [], hW2, ?_, ?_, ?_, ?_, fun h => by cases h⟩
  · rw [hs, hres]
    exact trodAll_mk1 (shut_bool htb true)
  · rw [hs]
    exact all_again hl hb _ _ _ _ ht hA (fun x hx => hlt x (List.mem_append.2 (.inl hx)))
  · rw [hs, hvars]
    rfl
  · exact hb.frame _

/-! Data that are plain numbers, of whatever depth. -/
def flatInts (P : Program) : Nat → TypeId → Bool
  | 0, _ => false
  | d + 1, t =>
    match P.underlying t with
    | some (.int .i64) => true
    | some (.struct fs) => (List.range (P.cellsOf t)).all fun j => fs.toList.any fun f => decide (f.offset ≤ j) && decide (j < f.offset + P.cellsOf f.type) && flatInts P d f.type
    | _ => false

/-- Cells that are numbers of 64 bits. -/
def IntCells (cs : List Value) (ns : List Int) : Prop := cs = ns.map (Value.int .i64) ∧ ∀ n ∈ ns, -9223372036854775808 ≤ n ∧ n ≤ 9223372036854775807

theorem intCells_of (cs : List Value) (h : ∀ j (hj : j < cs.length), ∃ n : Int, cs[j] = .int .i64 n ∧ -9223372036854775808 ≤ n ∧ n ≤ 9223372036854775807) : ∃ ns, IntCells cs ns := by
  induction cs with
  | nil => exact ⟨[], rfl, fun _ hn => by cases hn⟩
  | cons c cs ih =>
    obtain ⟨ns, e, hb⟩ := ih fun j hj => h (j + 1) (by simp; omega)
    obtain ⟨n, en, hn⟩ := h 0 (by simp)
    refine ⟨n :: ns, by simp only [List.getElem_cons_zero] at en; rw [en, e]; rfl, fun m hm => ?_⟩
    rcases List.mem_cons.1 hm with rfl | hm
    · exact hn
    · exact hb m hm

theorem flat_cells {w : World} {base : Nat} {spare : Nat → Bool} {held : Bool} : ∀ (d : Nat) (t : TypeId) (fuel : Nat) (cs : List Value) (x : DataW H × List MemPlace),
    flatInts P d t = true → DataW.trod enc P w base spare held fuel t cs = some x →
    ∀ j (hj : j < cs.length), ∃ n : Int, cs[j] = .int .i64 n ∧ -9223372036854775808 ≤ n ∧ n ≤ 9223372036854775807 := by
  intro d
  induction d with
  | zero => intro t fuel cs x h; simp [flatInts] at h
  | succ d ih =>
    intro t fuel cs x h hx j hj
    unfold flatInts at h
    split at h
    · rename_i ht
      obtain ⟨n, rfl, _, hwf⟩ := DataW.trod_int ht hx
      have : j = 0 := by simp at hj; omega
      subst this
      exact ⟨n, rfl, bounds_i64 hwf⟩
    · rename_i fs ht
      obtain ⟨xs, n, _, _, hlen, hxl, hf⟩ := DataW.trod_struct ht hx
      rw [List.all_eq_true] at h
      have hj' := h j (List.mem_range.2 (by omega))
      rw [List.any_eq_true] at hj'
      obtain ⟨f, hfm, hft⟩ := hj'
      simp only [Bool.and_eq_true, decide_eq_true_eq] at hft
      obtain ⟨⟨h1, h2⟩, h3⟩ := hft
      obtain ⟨i, hi, hfi⟩ := List.getElem_of_mem hfm
      have hg := hf i f (by rw [← hfi]; simp)
      have hi2 : i < xs.length := by rw [hxl]; simpa using hi
      rw [List.getElem?_eq_getElem hi2] at hg
      have hk : j - f.offset < ((cs.drop f.offset).take (P.cellsOf f.type)).length := by simp; omega
      obtain ⟨n, e, hn⟩ := ih _ _ _ _ h3 hg (j - f.offset) hk
      refine ⟨n, ?_, hn⟩
      rw [List.getElem_take, List.getElem_drop] at e
      rw [← e]
      congr 1
      omega
    · cases h

/-- A value of plain numbers: a number, or a struct of numbers. -/
theorem open_flat {r : Reach} {b0 : Nat} {w : World} {base : Nat} {spare : Nat → Bool} {held : Bool} {t : TypeId} {fs : Array Field} {v : Value} {d : DataW H} {p : List MemPlace} (ht : P.underlying t = some (.struct fs)) (hfl : flatInts P 8 t = true)
    (hv : Value.okWide P w r b0 t v) (h : DataW.Trod enc P w base spare held t v d p) :
    ∃ ns : List Int, v = .agg (ns.map (Value.int .i64)).toArray ∧ ns.length = P.cellsOf t ∧ ∀ n ∈ ns, -9223372036854775808 ≤ n ∧ n ≤ 9223372036854775807 := by
  obtain ⟨cs, rfl, hsz⟩ := okWide_struct ht hv
  obtain ⟨fuel, hf⟩ := h
  obtain ⟨ns, e, hb⟩ := intCells_of cs.toList (flat_cells 8 t fuel cs.toList _ hfl hf)
  refine ⟨ns, by rw [← e], ?_, hb⟩
  rw [← hsz, ← Array.length_toList, e, List.length_map]


theorem block_of_add (a : Addr) (n : Nat) : (a.add n).block = a.block := by unfold Addr.add; split <;> rfl

theorem cell_lt {w : World} {a : Addr} {v : Value} (h : w.cell? a = some v) : a.block < w.heap.size := by
  rcases Nat.lt_or_ge a.block w.heap.size with hlt | hge
  · exact hlt
  · have := World.cell?_of_block (w := w) (w' := { w with heap := #[] }) (a := a) (by rw [Array.getElem?_eq_none hge]; simp)
    rw [h] at this
    simp [World.cell?] at this

theorem open_flat_slice {r : Reach} {b0 : Nat} {w : World} {base : Nat} {held : Bool} {t e : TypeId} {v : Value} {d : DataW H} {p : List MemPlace} (ht : P.underlying t = some (.slice e)) (hfl : flatInts P 8 e = true) (hpos : 0 < P.cellsOf e)
    (hv : Value.okWide P w r b0 t v) (h : DataW.Trod enc P w base (fun _ => true) held t v d p) :
    ∃ A len cap ns, v = .slice A len cap ∧ len ≤ cap ∧ cap ≤ maxLen ∧ Ints ns ∧ Reads w (P.cellsOf e) A len (ints ns) := by
  obtain ⟨A, len, cap, rfl⟩ := okWide_slice ht hv
  obtain ⟨fuel, hf⟩ := h
  rcases Go.Deep.open_slice ht hf with ⟨hcs, _⟩ | ⟨a, len', cap', m, n, D, Pl, hcs, _, hl, hm, hmm, _, hx⟩
  · simp [Value.cells] at hcs
    obtain ⟨rfl, rfl, rfl⟩ := hcs
    exact ⟨none, 0, 0, [], rfl, Nat.le_refl _, Nat.zero_le _, (fun _ h => by cases h), Reads.nil_ _ _ _⟩
  · simp [Value.cells] at hcs
    obtain ⟨rfl, rfl, rfl⟩ := hcs
    have hm2 : m = cap := by rw [hmm, if_pos rfl]
    -- every cell of an element is a number
    have hcell : ∀ j, j < len * P.cellsOf e → ∃ n : Int, w.cell? (a.add j) = some (.int .i64 n) ∧ -9223372036854775808 ≤ n ∧ n ≤ 9223372036854775807 := by
      intro j hj
      have hi : j / P.cellsOf e < m := by
        rw [hm2]
        exact Nat.lt_of_lt_of_le ((Nat.div_lt_iff_lt_mul hpos).2 hj) hl
      obtain ⟨cs', hc, htr⟩ := hx _ hi
      obtain ⟨_, hlen, hat⟩ := World.cells?_some hc
      have hr : j % P.cellsOf e < cs'.length := by rw [hlen]; exact Nat.mod_lt _ hpos
      obtain ⟨n, en, hn⟩ := flat_cells 8 e _ cs' _ hfl htr _ hr
      refine ⟨n, ?_, hn⟩
      have := hat (j % P.cellsOf e) (Nat.mod_lt _ hpos)
      rw [Go.Deep.add_add, List.getElem?_eq_getElem hr, en, Nat.div_add_mod' j] at this
      exact this
    obtain ⟨f, hfn⟩ := Go.Deep.choose_lt (α := Int) hcell
    refine ⟨some a, len, cap, (List.range (len * P.cellsOf e)).map f, rfl, hl, hm, ?_, by simp [ints], fun h0 => ?_⟩
    · intro n hn
      obtain ⟨j, hj, rfl⟩ := List.mem_map.1 hn
      exact (hfn j (List.mem_range.1 hj)).2
    · obtain ⟨b, off, spot⟩ := a
      have hspot : spot = none := by simpa [Addr.add] using World.cell?_spot (hfn 0 h0).1
      subst hspot
      refine ⟨b, off, rfl, by simpa [block_of_add] using cell_lt (hfn 0 h0).1, fun j hj => ?_⟩
      simp only [ints, List.length_map, List.length_range] at hj
      simp only [ints, List.getElem_map, List.getElem_range]
      rw [← Go.WideShapes.add_plain]
      exact (hfn j hj).1
end
end Go.Proofs.YtkoncepjfgnjlaaGreat
/- Parts of the heap, told one by one. No program stands in this text. -/
namespace Go.Proofs.YtkoncepjfgnjlaaGreat
open Go.RowKit

/-- A part of the heap: some of the blocks. -/
abbrev Hm := Nat → Option Obj
/-- What is told of a part. -/
abbrev HP := Hm → Prop
def hSub (h h' : Hm) : Prop := ∀ k o, h k = some o → h' k = some o
def hDisj (h h' : Hm) : Prop := ∀ k, h k = none ∨ h' k = none
/-- All of a list is so, each of a part of its own. -/
def sat : List HP → Hm → Prop
  | [], _ => True
  | A :: L, h => ∃ h1 h2, hDisj h1 h2 ∧ hSub h1 h ∧ hSub h2 h ∧ A h1 ∧ sat L h2

theorem hSub.refl (h : Hm) : hSub h h := fun _ _ e => e
theorem hSub.trans {a b c : Hm} (h : hSub a b) (k : hSub b c) : hSub a c := fun i o e => k i o (h i o e)
theorem hDisj.symm {a b : Hm} (h : hDisj a b) : hDisj b a := fun k => (h k).symm
theorem hDisj.sub {a b a' b' : Hm} (h : hDisj a b) (ha : hSub a' a) (hb : hSub b' b) : hDisj a' b' := fun k => by
  rcases h k with e | e
  · left; cases h' : a' k with
    | none => rfl
    | some o => rw [ha k o h'] at e; cases e
  · right; cases h' : b' k with
    | none => rfl
    | some o => rw [hb k o h'] at e; cases e

theorem sat.up {L : List HP} {h h' : Hm} (s : sat L h) (hh : hSub h h') : sat L h' := by
  cases L with
  | nil => trivial
  | cons A L =>
    obtain ⟨h1, h2, d, s1, s2, a, l⟩ := s
    exact ⟨h1, h2, d, s1.trans hh, s2.trans hh, a, l⟩
theorem sat.tail {A : HP} {L : List HP} {h : Hm} (s : sat (A :: L) h) : sat L h := by
  obtain ⟨h1, h2, d, s1, s2, a, l⟩ := s
  exact l.up s2
theorem sat.swap {A B : HP} {L : List HP} {h : Hm} (s : sat (A :: B :: L) h) : sat (B :: A :: L) h := by
  obtain ⟨h1, h2, d, s1, s2, a, k1, k2, d', t1, t2, b, l⟩ := s
  have d1 : hDisj h1 k1 := d.sub (hSub.refl _) t1
  have d2 : hDisj h1 k2 := d.sub (hSub.refl _) t2
  let m : Hm := fun k => (h1 k).or (k2 k)
  have m1 : hSub h1 m := fun k o e => by simp [m, e]
  have m2 : hSub k2 m := fun k o e => by
    rcases d2 k with e' | e'
    · simp [m, e', e]
    · rw [e] at e'; cases e'
  refine ⟨k1, m, fun k => ?_, t1.trans s2, fun k o e => ?_, b, h1, k2, d2, m1, m2, a, l⟩
  · rcases d1 k with e | e
    · rcases d' k with e' | e'
      · exact .inl e'
      · right; simp [m, e, e']
    · exact .inl e
  · have e' : (h1 k).or (k2 k) = some o := e
    cases h9 : h1 k with
    | none => rw [h9] at e'; exact s2 k o (t2 k o (by simpa using e'))
    | some o' => rw [h9] at e'; exact s1 k o (by rw [h9]; simpa using e')
theorem sat.cons_mono {A : HP} {L L' : List HP} (f : ∀ h, sat L h → sat L' h) {h : Hm} (s : sat (A :: L) h) : sat (A :: L') h := by
  obtain ⟨h1, h2, d, s1, s2, a, l⟩ := s
  exact ⟨h1, h2, d, s1, s2, a, f _ l⟩
theorem sat.perm {L L' : List HP} (p : L.Perm L') : ∀ {h : Hm}, sat L h → sat L' h := by
  induction p with
  | nil => exact fun s => s
  | cons A _ ih => exact fun s => s.cons_mono fun _ => ih
  | swap A B L => exact fun s => s.swap
  | trans _ _ i1 i2 => exact fun s => i2 (i1 s)
/-- The first is taken for others. -/
theorem sat.head {A : HP} {N L : List HP} (f : ∀ h, A h → sat N h) {h : Hm} (s : sat (A :: L) h) : sat (N ++ L) h := by
  obtain ⟨h1, h2, d, s1, s2, a, l⟩ := s
  have n := f _ a
  clear a f
  revert n
  induction N generalizing h1 h with
  | nil => exact fun _ => l.up s2
  | cons B N ih =>
    rintro ⟨k1, k2, d', t1, t2, b, n⟩
    have d1 : hDisj k1 h2 := d.sub t1 (hSub.refl _)
    have d2 : hDisj k2 h2 := d.sub t2 (hSub.refl _)
    let m : Hm := fun k => (k2 k).or (h2 k)
    have m1 : hSub k2 m := fun k o e => by simp [m, e]
    have m2 : hSub h2 m := fun k o e => by
      rcases d2 k with e' | e'
      · simp [m, e', e]
      · rw [e] at e'; cases e'
    refine ⟨k1, m, fun k => ?_, t1.trans s1, fun k o e => ?_, b, ih (h1 := k2) (h := m) d2 m1 m2 n⟩
    · rcases d' k with e | e
      · exact .inl e
      · rcases d1 k with e' | e'
        · exact .inl e'
        · right; simp [m, e, e']
    · have e' : (k2 k).or (h2 k) = some o := e
      cases h9 : k2 k with
      | none => rw [h9] at e'; exact s2 k o (by simpa using e')
      | some o' => rw [h9] at e'; exact s1 k o (t2 k o (by rw [h9]; simpa using e'))
/-- A list's parts, all of them together as one, and the others. -/
theorem sat.split {N L : List HP} {h : Hm} (s : sat (N ++ L) h) : ∃ h1 h2, hDisj h1 h2 ∧ hSub h1 h ∧ hSub h2 h ∧ sat N h1 ∧ sat L h2 := by
  induction N generalizing h with
  | nil => exact ⟨fun _ => none, h, fun _ => .inl rfl, fun _ _ e => (by cases e), hSub.refl _, trivial, s⟩
  | cons B N ih =>
    obtain ⟨k1, k2, d, t1, t2, b, n⟩ := s
    obtain ⟨j1, j2, d', u1, u2, nn, l⟩ := ih n
    have d1 : hDisj k1 j1 := d.sub (hSub.refl _) u1
    have d2 : hDisj k1 j2 := d.sub (hSub.refl _) u2
    let m : Hm := fun k => (k1 k).or (j1 k)
    have m1 : hSub k1 m := fun k o e => by simp [m, e]
    have m2 : hSub j1 m := fun k o e => by
      rcases d1 k with e' | e'
      · simp [m, e', e]
      · rw [e] at e'; cases e'
    refine ⟨m, j2, fun k => ?_, fun k o e => ?_, u2.trans t2, ⟨k1, j1, d1, m1, m2, b, nn⟩, l⟩
    · rcases d2 k with e | e
      · rcases d' k with e' | e'
        · left; simp [m, e, e']
        · exact .inr e'
      · exact .inr e
    · have e' : (k1 k).or (j1 k) = some o := e
      cases h9 : k1 k with
      | none => rw [h9] at e'; exact t2 k o (u1 k o (by simpa using e'))
      | some o' => rw [h9] at e'; exact t1 k o (by rw [h9]; simpa using e')
/-- Some are told as one. -/
theorem sat.fold {A : HP} {N L : List HP} (f : ∀ h, sat N h → A h) {h : Hm} (s : sat (N ++ L) h) : sat (A :: L) h := by
  obtain ⟨h1, h2, d, s1, s2, n, l⟩ := s.split
  exact ⟨h1, h2, d, s1, s2, f _ n, l⟩

/-! What is read. -/
def cellOf (h : Hm) (a : Addr) : Option Value :=
  match h a.block with
  | some (.cells c _ _) => if a.spot.isSome then none else c[a.off]?
  | _ => none
def frozenOf (h : Hm) (a : Addr) : Bool :=
  match h a.block with
  | some (.cells _ _ (lo, hi)) => lo ≤ a.off && a.off < hi
  | _ => false
theorem cellOf.sub {h h' : Hm} {a : Addr} {v : Value} (e : cellOf h a = some v) (s : hSub h h') : cellOf h' a = some v := by
  unfold cellOf at *
  cases hb : h a.block with
  | none => rw [hb] at e; cases e
  | some o => rw [s _ _ hb]; rw [hb] at e; exact e

/-- In whatever heap the list is true of, the address holds the value. -/
structure Ld (L : List HP) (a : Addr) (v : Value) : Prop where
  get : ∀ h, sat L h → cellOf h a = some v
/-- In whatever heap the list is true of, the address's block is this one. -/
def Has (L : List HP) (b : Nat) (o : Obj) : Prop := ∀ h, sat L h → h b = some o

/-- A block, whole. -/
structure blk (b : Nat) (T : TypeId) (cs : List Value) (h : Hm) : Prop where
  eq : h b = some (.cells cs.toArray T (0, 0))
/-- All of a heap, as it was. -/
def old (h0 : Hm) : HP := fun h => hSub h0 h
/-- Nothing is told. -/
theorem Ld.skip {A : HP} {L : List HP} {a : Addr} {v : Value} (h : Ld L a v) : Ld (A :: L) a v := ⟨fun _ s => h.1 _ s.tail⟩
theorem Ld.blk {L : List HP} {b i : Nat} {T : TypeId} {cs : List Value} {v : Value} (h : cs[i]? = some v) : Ld (blk b T cs :: L) ⟨b, i, none⟩ v := by
  constructor
  rintro hh ⟨h1, h2, d, s1, s2, a, l⟩
  have : hh b = some (.cells cs.toArray T (0, 0)) := s1 _ _ a.eq
  simp [cellOf, this, h]
theorem Ld.old {L : List HP} {h0 : Hm} {a : Addr} {v : Value} (h : cellOf h0 a = some v) : Ld (old h0 :: L) a v := by
  constructor
  rintro hh ⟨h1, h2, d, s1, s2, o, l⟩
  exact cellOf.sub (cellOf.sub h o) s1
theorem Ld.perm {L L' : List HP} {a : Addr} {v : Value} (p : L'.Perm L) (h : Ld L a v) : Ld L' a v := ⟨fun _ s => h.1 _ (s.perm p)⟩
theorem Ld.app {N L : List HP} {a : Addr} {v : Value} (h : Ld L a v) : Ld (N ++ L) a v := by
  induction N with
  | nil => exact h
  | cons A N ih => exact ih.skip

def _root_.Go.World.hm (w : World) : Hm := fun k => w.heap[k]?
/-- The streams, which nothing here moves. -/
structure Glob where
  os : Os
  tape : Nat → Question → Nat
  output : Array (Nat × ByteArray)
  dfs : List Deferred := []
  rnd : Option Nat := none
def glob (w : World) : Glob := ⟨w.os, w.tape, w.output, [], none⟩
/-- The streams alone. -/
def Glob.base (g : Glob) : Glob := ⟨g.os, g.tape, g.output, [], none⟩
/-- What is told of a world. -/
structure Hp (g : Glob) (L : List HP) (w : World) : Prop where
  g : glob w = g.base
  s : sat L w.hm

theorem Hp.base {g : Glob} {L : List HP} {w : World} (h : Hp g L w) : Hp g.base L w := ⟨h.g, h.s⟩
theorem Hp.of_base {g : Glob} {L : List HP} {w : World} (h : Hp g.base L w) : Hp g L w := ⟨h.g, h.s⟩
theorem Hp.mono {g : Glob} {L L' : List HP} (f : ∀ h, sat L h → sat L' h) {w : World} (h : Hp g L w) : Hp g L' w := ⟨h.g, f _ h.s⟩
theorem Hp.cell {g : Glob} {L : List HP} {w : World} {a : Addr} {v : Value} (h : Hp g L w) (l : Ld L a v) : w.cell? a = some v := l.1 _ h.s
theorem Hp.drew {g : Glob} {L : List HP} {w : World} (h : Hp g L w) : Hp g L w.drew := ⟨h.g, h.s⟩
theorem Hp.blk_heap {g : Glob} {L : List HP} {w : World} {b : Nat} {T : TypeId} {cs : List Value} (h : Hp g (blk b T cs :: L) w) : w.heap[b]? = some (.cells cs.toArray T (0, 0)) := by
  obtain ⟨h1, h2, d, s1, s2, a, l⟩ := h.s
  exact s1 _ _ a.eq
theorem Hp.blk_frozen {g : Glob} {L : List HP} {w : World} {b i : Nat} {T : TypeId} {cs : List Value} (h : Hp g (blk b T cs :: L) w) : w.frozen? ⟨b, i, none⟩ = false := by
  simp [World.frozen?, h.blk_heap]

theorem Hp.alloc {g : Glob} {L : List HP} {w : World} (h : Hp g L w) (T : TypeId) (cs : List Value) : Hp g (blk w.heap.size T cs :: L) (w.alloc (.cells cs.toArray T (0, 0))) := by
  refine ⟨h.g, fun k => if k = w.heap.size then some (.cells cs.toArray T (0, 0)) else none, w.hm, fun k => ?_, fun k o e => ?_, fun k o e => ?_, ⟨by simp⟩, h.s⟩
  · by_cases hk : k = w.heap.size
    · right; subst hk; simp [World.hm]
    · left; simp [hk]
  · replace e : (if k = w.heap.size then some (Obj.cells cs.toArray T) else none) = some o := e
    by_cases hk : k = w.heap.size
    · subst hk
      rw [if_pos rfl] at e
      show (w.heap.push _)[_]? = _
      simpa using e
    · rw [if_neg hk] at e; cases e
  · have hk : k < w.heap.size := by
      rcases Nat.lt_or_ge k w.heap.size with h' | h'
      · exact h'
      · simp [World.hm, Array.getElem?_eq_none h'] at e
    show (w.heap.push _)[k]? = _
    rw [Array.getElem?_push, if_neg (by omega)]
    exact e

theorem Hp.store {g : Glob} {L : List HP} {w : World} {b i : Nat} {T : TypeId} {cs : List Value} (h : Hp g (blk b T cs :: L) w) (v : Value) : Hp g (blk b T (cs.set i v) :: L) (w.setCell ⟨b, i, none⟩ v) := by
  have hb := h.blk_heap
  have hlt : b < w.heap.size := by
    rcases Nat.lt_or_ge b w.heap.size with h' | h'
    · exact h'
    · rw [Array.getElem?_eq_none h'] at hb; cases hb
  obtain ⟨h1, h2, d, s1, s2, a, l⟩ := h.s
  have a' : h1 b = some (.cells cs.toArray T (0, 0)) := a.eq
  have hne : ∀ k, k ≠ b → (w.setCell ⟨b, i, none⟩ v).hm k = w.hm k := fun k hk => Below.heap_setCell w ⟨b, i, none⟩ v k hk
  have heq : (w.setCell ⟨b, i, none⟩ v).hm b = some (.cells (cs.set i v).toArray T (0, 0)) := by
    show (w.heap.modify b _)[b]? = _
    rw [Array.getElem?_modify, if_pos rfl, hb]
    simp
  refine ⟨h.g, fun k => if k = b then some (.cells (cs.set i v).toArray T (0, 0)) else none, h2, fun k => ?_, fun k o e => ?_, fun k o e => ?_, ⟨by simp⟩, l⟩
  · by_cases hk : k = b
    · right
      rcases d k with e | e
      · rw [hk, a'] at e; cases e
      · exact e
    · left; simp [hk]
  · replace e : (if k = b then some (Obj.cells (cs.set i v).toArray T (0, 0)) else none) = some o := e
    by_cases hk : k = b
    · subst hk
      rw [if_pos rfl] at e
      rw [heq]; exact e
    · rw [if_neg hk] at e; cases e
  · by_cases hk : k = b
    · rcases d k with e' | e'
      · rw [hk, a'] at e'; cases e'
      · rw [e'] at e; cases e
    · rw [hne k hk]; exact s2 k o e

/-- Where all began, and where it ended: nothing old has turned. -/
theorem Hp.start (w : World) : Hp (glob w) [old w.hm] w := ⟨rfl, w.hm, fun _ => none, fun _ => .inr rfl, hSub.refl _, fun _ _ e => (by cases e), hSub.refl _, trivial⟩
theorem Hp.below {w w' : World} {L : List HP} (h : Hp (glob w) (old w.hm :: L) w') : Below w.heap.size w w' := by
  obtain ⟨h1, h2, d, s1, s2, a, l⟩ := h.s
  have hb : ∀ k, k < w.heap.size → w'.heap[k]? = w.heap[k]? := fun k hk => by
    have e : w.hm k = some w.heap[k] := by simp [World.hm, hk]
    have := s1 _ _ (a _ _ e)
    rw [show w.heap[k]? = some w.heap[k] by simp [hk]]
    exact this
  have hg := h.g
  refine ⟨congrArg Glob.os hg, congrArg Glob.tape hg, congrArg Glob.output hg, ?_, hb⟩
  rcases Nat.lt_or_ge w'.heap.size w.heap.size with h' | h'
  · have := hb _ h'
    simp [h'] at this
  · exact h'
end Go.Proofs.YtkoncepjfgnjlaaGreat
/- A walk over what slots and parts of the heap hold. No program stands in this text. -/
namespace Go.Proofs.YtkoncepjfgnjlaaGreat
open Go.RowKit

/-- What some slots hold; the first one that is told of a slot counts. -/
abbrev Env := List (Nat × Value)
def Env.get : Env → Nat → Option Value
  | [], _ => none
  | (s, v) :: σ, t => bif Nat.beq s t then some v else Env.get σ t
def ev (σ : Env) : Operand → Option Value
  | .tmp t => σ.get t
  | .const v => some v
  | .global g => some (.pointer (some ⟨g, 0, none⟩))
  | .func f => some (.func (.func f) #[] #[])
def SatE (σ : Env) (a : Act) : Prop := ∀ t v, σ.get t = some v → a.tmps[t]? = some v
theorem SatE.eval {σ : Env} {a : Act} (h : SatE σ a) {x : Operand} {v : Value} (e : ev σ x = some v) : a.eval x = v := by
  cases x with
  | tmp t =>
    have := h t v e
    simp only [Act.eval, Array.getD_eq_getD_getElem?, this, Option.getD_some]
  | const u => exact Option.some.inj e
  | global g => exact Option.some.inj e
  | func f => exact Option.some.inj e
theorem SatE.cons {σ : Env} {a : Act} (h : SatE σ a) {t : Nat} {v : Value} (e : a.tmps[t]? = some v) : SatE ((t, v) :: σ) a := by
  intro s u hs
  simp only [Env.get] at hs
  cases hb : Nat.beq t s with
  | true => rw [hb] at hs; rw [← Nat.eq_of_beq_eq_true hb]; rw [e]; simpa using hs
  | false => rw [hb] at hs; exact h s u (by simpa using hs)
theorem SatE.put {σ : Env} {a : Act} (h : SatE σ a) {t : Nat} (v : Value) (ht : t < a.tmps.size) : SatE ((t, v) :: σ) (a.put (some t) v) := by
  intro s u hs
  simp only [Env.get] at hs
  show (a.tmps.setIfInBounds t v)[s]? = _
  rw [Array.getElem?_setIfInBounds]
  cases hb : Nat.beq t s with
  | true =>
    have e := Nat.eq_of_beq_eq_true hb
    rw [hb] at hs
    rw [if_pos e, if_pos ht]; simpa using hs
  | false =>
    rw [hb] at hs
    rw [if_neg (Nat.ne_of_beq_eq_false hb)]
    exact h s u (by simpa using hs)
/-- A list of slots is told in another one. -/
def envSub (σ : Env) : Env → Prop
  | [] => True
  | (t, v) :: τ => σ.get t = some v ∧ envSub σ τ
theorem SatE.sub {σ τ : Env} {a : Act} (h : SatE σ a) (s : envSub σ τ) : SatE τ a := by
  induction τ with
  | nil => intro t v e; cases e
  | cons p τ ih => exact (ih s.2).cons (h _ _ s.1)

structure Sat (g : Glob) (n : Nat) (σ : Env) (a : Act) : Prop where
  size : a.tmps.size = n
  defers : a.defers = g.dfs
  e : SatE σ a
theorem Sat.put {g : Glob} {n : Nat} {σ : Env} {a : Act} (h : Sat g n σ a) {t : Nat} (v : Value) (ht : Nat.blt t n = true) : Sat g n ((t, v) :: σ) (a.put (some t) v) :=
  ⟨by simp [Act.put, h.size], h.defers, h.e.put v (by rw [h.size]; exact Nat.le_of_ble_eq_true ht)⟩
theorem Sat.sub {g : Glob} {n : Nat} {σ τ : Env} {a : Act} (h : Sat g n σ a) (s : envSub σ τ) : Sat g n τ a := ⟨h.size, h.defers, h.e.sub s⟩

/-! Operations. -/
/-- It yields a value, and does nothing else. -/
def Ev (P : Program) (L : List HP) (σ : Env) (o : Oper) (v : Value) : Prop :=
  ∀ a w, SatE σ a → sat L w.hm → (execOp a.eval o).run P w = .ok (.value v) w
/-- It yields a value, and may turn what is told of the heap. -/
def Eff (P : Program) (g : Glob) (L : List HP) (σ : Env) (o : Oper) (post : Value → List HP → Prop) : Prop :=
  ∀ a w, SatE σ a → Hp g L w → ∀ (K : Act → World → Prop) (Q : Exit → Act → World → Prop),
    (∀ v w' L', post v L' → Hp g L' w' → K (a.put o.dst v) w') → o.wp P a w K Q
theorem Ev.eff {P : Program} {g : Glob} {L : List HP} {σ : Env} {o : Oper} {v : Value} (h : Ev P L σ o v) : Eff P g L σ o fun u L' => u = v ∧ L' = L := by
  intro a w hs hw K Q hK
  unfold Oper.wp
  rw [h a w hs hw.s]
  exact hK v w L ⟨rfl, rfl⟩ hw

/-- A function's contract: what it asks of the heap, and leaves; of all else (F) it touches nothing. -/
def Ctr (P : Program) (f : FuncId) (args : Array Value) (L : List HP) (post : Value → List HP → Prop) : Prop :=
  ∀ g F w, Hp g (F :: L) w → Calls P f args w fun e w' => ∃ v L', e = .returned v ∧ post v L' ∧ Hp g (F :: L') w'
theorem Ctr.mono {P : Program} {f : FuncId} {args : Array Value} {L : List HP} {post post' : Value → List HP → Prop} (h : Ctr P f args L post) (hp : ∀ v L', post v L' → post' v L') : Ctr P f args L post' :=
  fun g F w hw => (h g F w hw).mono fun _ _ ⟨v, L', e, p, q⟩ => ⟨v, L', e, hp _ _ p, q⟩
theorem sat.join {N L : List HP} {h : Hm} (s : sat (N ++ L) h) : sat ((fun h => sat N h) :: L) h := s.fold fun _ n => n
theorem sat.part {N L : List HP} {h : Hm} (s : sat ((fun h => sat N h) :: L) h) : sat (N ++ L) h := s.head fun _ n => n
theorem Ctr.frame {P : Program} {f : FuncId} {args : Array Value} {L M : List HP} {post : Value → List HP → Prop} (Fr : List HP) (h : Ctr P f args L post) (hL : ∀ h, sat M h → sat (Fr ++ L) h) : Ctr P f args M fun v L' => ∃ L1, post v L1 ∧ L' = Fr ++ L1 := by
  intro g F w hw
  have h1 : Hp g ((fun h => sat (F :: Fr) h) :: L) w := hw.mono fun k s => sat.join (N := F :: Fr) (s.cons_mono hL)
  refine (h g _ w h1).mono fun e w' ⟨v, L', e1, p, q⟩ => ⟨v, _, e1, ⟨L', p, rfl⟩, q.mono fun k s => sat.part (N := F :: Fr) s⟩

/-! What is still to be done. -/
/-- Whatever frames, in a round or in none. -/
def fnc (r : Option Nat) : Fence := { Fence.wide with round := r }
/-! An operation in whatever frame. -/
theorem Oper.wp_in {r : Option Nat} {P : Program} {o : Oper} {a : Act} {w : World} {K : Act → World → Prop} {Q : Exit → Act → World → Prop} (hd : ∀ c, o.op ≠ .defer c) (h : o.wp P a w K Q) : o.wpIn (fnc r) 0 P a w K Q := by
  refine ⟨fun _ _ => trivial, ?_⟩
  rw [Oper.semAt_eq _ _ _ hd]
  unfold Oper.wp at h
  generalize (execOp a.eval o).run P w = x at h ⊢
  cases x with
  | ok x w' =>
    cases x with
    | value v => exact h
    | skip => exact h
    | defer d => exact h
    | enter f args => exact ⟨(fun e => by cases e), (callsIn_wide (n := 0)).2 h⟩
    | row row args =>
      refine ⟨(fun e => by cases e), fun c cs _ => ?_⟩
      obtain ⟨v, w'', h1, h2⟩ := h c cs
      exact ⟨v, w'', h1, stepsIn_wide.2 h2⟩
    | _ => exact h.elim
  | halt x w' =>
    cases x with
    | panic v => exact h
    | _ => exact h.elim
theorem Eff.no_defer {P : Program} {g : Glob} {L : List HP} {σ : Env} {o : Oper} {post : Value → List HP → Prop} (he : Eff P g L σ o post) {a : Act} {w : World} (hs : SatE σ a) (hw : Hp g L w) : ∀ c, o.op ≠ .defer c := fun c hc => by
  have h := he a w hs hw (fun a' _ => a'.defers = a.defers) (fun _ _ _ => False) (fun v w' L' _ _ => by cases o.dst <;> rfl)
  unfold Oper.wp at h
  have e : execOp a.eval o = (do pure (.defer (← resolve a.eval c o.type)) : Sem Next) := by
    unfold execOp
    rw [hc]
  rw [e] at h
  simp only [Sem.run_bind] at h
  generalize (resolve a.eval c o.type).run P w = x at h
  cases x with
  | ok d w' =>
    simp only [Result.andThen_ok, Sem.run_pure] at h
    have h' : (({ a with defers := d :: a.defers } : Act).put o.dst undef).defers = a.defers := h
    have h2 : (({ a with defers := d :: a.defers } : Act).put o.dst undef).defers = d :: a.defers := by cases o.dst <;> rfl
    rw [h2] at h'
    exact absurd (congrArg List.length h') (by simp)
  | halt x w' => cases x <;> exact h
theorem Eff.in_ {r : Option Nat} {P : Program} {g : Glob} {L : List HP} {σ : Env} {o : Oper} {post : Value → List HP → Prop} (he : Eff P g L σ o post) {a : Act} {w : World} (hs : SatE σ a) (hw : Hp g L w) {K : Act → World → Prop} {Q : Exit → Act → World → Prop}
    (h : ∀ v w' L', post v L' → Hp g L' w' → K (a.put o.dst v) w') : o.wpIn (fnc r) 0 P a w K Q := Oper.wp_in (he.no_defer hs hw) (he a w hs hw K Q h)
/-- None of them is put off to the end. -/
def noDefL (l : List Oper) : Bool := l.all fun o => match o.op with | .defer _ => false | _ => true
theorem noDefL_spec {l : List Oper} (h : noDefL l = true) {i : Nat} {o : Oper} (ho : l.toArray[i]? = some o) : ∀ c, o.op ≠ .defer c := fun c hc => by
  have h1 := List.all_eq_true.1 h o (List.mem_of_getElem? (by simpa using ho))
  rw [hc] at h1
  cases h1
theorem wpAny_in {r : Option Nat} {P : Program} {l : List Oper} {Q : Exit → Act → World → Prop} (hd : noDefL l = true) (hno : ¬ LetsOut Q) : ∀ (fuel : Nat) (listed : Array Bool) (a : Act) (w : World), wpAny P .any l.toArray Q fuel listed a w → wpAnyIn (fnc r) 0 P .any l.toArray Q fuel listed a w
  | 0, _, _, _, h => h
  | fuel + 1, listed, a, w, h => ⟨h.1, fun i hi => by
    have h1 := wpOp_mono (K' := wpAnyIn (fnc r) 0 P .any l.toArray Q fuel (listed.setIfInBounds i true)) (fun a' w' h' => wpAny_in hd hno fuel _ a' w' h') (h.2 i hi)
    unfold wpOp at h1
    unfold wpOpIn
    split
    · rename_i e
      simpa [e] using h1
    · rename_i o e
      simp only [e] at h1
      split
      · rename_i hw
        rw [if_pos hw] at h1
        exact Oper.wp_in (noDefL_spec hd e) (h1.resolve_right fun h => hno h.2)
      · rename_i hw
        rw [if_neg hw] at h1
        exact ⟨fun _ _ => trivial, h1⟩⟩

inductive Kt where
  | code (c : Code)
  | blk (id : Nat)
  | inv (I : Act → World → Prop)
def Kq (r : Option Nat) (P : Program) (B : Exit → Act → World → Prop) : List Kt → Exit → Act → World → Prop
  | _, .outgrown, _, _ => False
  | [], e, a, w => B e a w
  | .code c :: K, .normal, a, w => c.wpIn (fnc r) 0 P (Kq r P B K) a w
  | .code _ :: K, e, a, w => Kq r P B K e a w
  | .blk id :: K, .exit i, a, w => if i = id then Kq r P B K .normal a w else Kq r P B K (.exit i) a w
  | .blk _ :: K, e, a, w => Kq r P B K e a w
  | .inv I :: _, .normal, a, w => I a w
  | .inv _ :: K, e, a, w => Kq r P B K e a w
def unw (id : Nat) : List Kt → Option (List Kt)
  | [] => none
  | .blk i :: K => bif Nat.beq id i then some K else unw id K
  | .code _ :: K => unw id K
  | .inv _ :: K => unw id K
section
variable {r : Option Nat} {P : Program} {B : Exit → Act → World → Prop}
theorem Kq_exit {id : Nat} {a : Act} {w : World} : ∀ {K K' : List Kt}, unw id K = some K' → Kq r P B K' .normal a w → Kq r P B K (.exit id) a w
  | [], _, h, _ => by cases h
  | .blk i :: K, K', h, hk => by
    simp only [unw] at h
    simp only [Kq]
    cases hb : Nat.beq id i with
    | true =>
      rw [hb] at h
      have e : K = K' := by simpa using h
      rw [if_pos (Nat.eq_of_beq_eq_true hb), e]; exact hk
    | false =>
      rw [hb] at h
      rw [if_neg (Nat.ne_of_beq_eq_false hb)]
      exact Kq_exit (by simpa using h) hk
  | .code c :: K, K', h, hk => by simp only [Kq]; exact Kq_exit h hk
  | .inv I :: K, K', h, hk => by simp only [Kq]; exact Kq_exit h hk
theorem Kq_ret {a : Act} {w : World} : ∀ {K : List Kt}, B .ret a w → Kq r P B K .ret a w
  | [], h => h
  | .blk i :: K, h => by simp only [Kq]; exact Kq_ret h
  | .code c :: K, h => by simp only [Kq]; exact Kq_ret h
  | .inv I :: K, h => by simp only [Kq]; exact Kq_ret h
theorem Kq_in {K : List Kt} : ¬ LetsOut (Kq r P B K) := fun ⟨a, w, h⟩ => by
  cases K with
  | nil => exact h
  | cons k K => cases k <;> exact h
theorem Kq_code (c : Code) (K : List Kt) : Exit.then (c.wpIn (fnc r) 0 P (Kq r P B K)) (Kq r P B K) = Kq r P B (.code c :: K) := by
  funext e a w
  cases e <;> first | rfl | (cases K with | nil => rfl | cons k K => cases k <;> rfl)
theorem Kq_blk (id : Nat) (K : List Kt) : Exit.inBlock id (Kq r P B K) = Kq r P B (.blk id :: K) := by
  funext e a w
  cases e <;> first | rfl | (cases K with | nil => rfl | cons k K => cases k <;> rfl)
theorem Kq_inv (I : Act → World → Prop) (K : List Kt) : Exit.then I (Kq r P B K) = Kq r P B (.inv I :: K) := by
  funext e a w
  cases e <;> first | rfl | (cases K with | nil => rfl | cons k K => cases k <;> rfl)
end

section
variable {P : Program} {B : Exit → Act → World → Prop} {g : Glob} {n : Nat} {K : List Kt} {σ : Env} {L : List HP}

/-- The goal: from here on all goes well. -/
def G (P : Program) (B : Exit → Act → World → Prop) (g : Glob) (n : Nat) (K : List Kt) (σ : Env) (L : List HP) : Prop :=
  ∀ a w, Sat g n σ a → Hp g L w → Kq g.rnd P B K .normal a w

theorem G_seq {x y : Code} (h : G P B g n (.code x :: .code y :: K) σ L) : G P B g n (.code (.seq x y) :: K) σ L := fun a w hs hw => by
  show (Code.seq x y).wpIn (fnc g.rnd) 0 P _ a w
  refine wpIn_seq ?_
  rw [Kq_code]
  exact h a w hs hw
theorem G_block {id : Nat} {c : Code} (h : G P B g n (.code c :: .blk id :: K) σ L) : G P B g n (.code (.block id c) :: K) σ L := fun a w hs hw => by
  show (Code.block id c).wpIn (fnc g.rnd) 0 P _ a w
  refine wpIn_block ?_
  rw [Kq_blk]
  exact h a w hs hw
theorem G_endblk {id : Nat} (h : G P B g n K σ L) : G P B g n (.blk id :: K) σ L := fun a w hs hw => h a w hs hw
theorem G_skip (h : G P B g n K σ L) : G P B g n (.code .skip :: K) σ L := fun a w hs hw => wpIn_skip (h a w hs hw)
theorem G_exit {id : Nat} {K' : List Kt} (e : unw id K = some K') (h : G P B g n K' σ L) : G P B g n (.code (.exit id) :: K) σ L := fun a w hs hw => wpIn_exit (Kq_exit e (h a w hs hw))
theorem G_cond {c : Operand} {x y : Code} {p : Prop} [Decidable p] (hc : ev σ c = some (.bool (decide p)))
    (ht : p → G P B g n (.code x :: K) σ L) (hf : ¬ p → G P B g n (.code y :: K) σ L) : G P B g n (.code (.cond c x y) :: K) σ L := fun a w hs hw => by
  show (Code.cond c x y).wpIn (fnc g.rnd) 0 P _ a w
  by_cases hp : p
  · exact wpIn_cond_true (by rw [hs.e.eval hc, decide_eq_true hp]) (ht hp a w hs hw)
  · exact wpIn_cond_false (by rw [hs.e.eval hc, decide_eq_false hp]) (hf hp a w hs hw)
theorem G_condB {c : Operand} {x y : Code} {b : Bool} (hc : ev σ c = some (.bool b))
    (ht : b = true → G P B g n (.code x :: K) σ L) (hf : b = false → G P B g n (.code y :: K) σ L) : G P B g n (.code (.cond c x y) :: K) σ L := fun a w hs hw => by
  show (Code.cond c x y).wpIn (fnc g.rnd) 0 P _ a w
  cases b with
  | true => exact wpIn_cond_true (hs.e.eval hc) (ht rfl a w hs hw)
  | false => exact wpIn_cond_false (hs.e.eval hc) (hf rfl a w hs hw)
theorem G_cond_t {c : Operand} {x y : Code} {b : Bool} (hc : ev σ c = some (.bool b)) (hb : b = true) (h : G P B g n (.code x :: K) σ L) : G P B g n (.code (.cond c x y) :: K) σ L :=
  G_condB hc (fun _ => h) (fun e => by rw [hb] at e; cases e)
theorem G_cond_f {c : Operand} {x y : Code} {b : Bool} (hc : ev σ c = some (.bool b)) (hb : b = false) (h : G P B g n (.code y :: K) σ L) : G P B g n (.code (.cond c x y) :: K) σ L :=
  G_condB hc (fun e => by rw [hb] at e; cases e) (fun _ => h)
/-- What is told is put otherwise. -/
theorem G_heap {L' : List HP} (f : ∀ h, sat L h → sat L' h) (h : G P B g n K σ L') : G P B g n K σ L := fun a w hs hw => h a w hs (hw.mono f)
/-- The first part, and a fact about it, is opened. -/
theorem G_open {ι : Type} {A : HP} {N : ι → List HP} {F : ι → Prop} (f : ∀ h, A h → ∃ x, F x ∧ sat (N x) h) (h : ∀ x, F x → G P B g n K σ (N x ++ L)) : G P B g n K σ (A :: L) := fun a w hs hw => by
  obtain ⟨h1, h2, d, s1, s2, ha, hl⟩ := hw.s
  obtain ⟨x, fx, nx⟩ := f _ ha
  exact h x fx a w hs ⟨hw.g, sat.head (A := fun h => h = h1) (fun _ e => e ▸ nx) ⟨h1, h2, d, s1, s2, rfl, hl⟩⟩
theorem least_of {p : Nat → Prop} : (∃ m, p m) → ∃ m, p m ∧ ∀ k, p k → m ≤ k := by
  rintro ⟨m, hm⟩
  induction m using Nat.strongRecOn with
  | _ m ih =>
    by_cases h : ∃ k, k < m ∧ p k
    · obtain ⟨k, hk, pk⟩ := h
      exact ih k hk pk
    · exact ⟨m, hm, fun k pk => Nat.le_of_not_lt fun hk => h ⟨k, hk, pk⟩⟩
/-- A loop: what holds at each round's head, and what every round lowers. -/
theorem G_loop {ι : Type} (τ : ι → Env) (M : ι → List HP) (F : ι → Prop) (μ : ι → Nat) (x0 : ι) (h0 : F x0) (hσ : envSub σ (τ x0)) (hL : ∀ h, sat L h → sat (M x0) h)
    {c : Code} (h : ∀ x, F x → G P B g n (.code c :: .inv (fun a w => ∃ y, F y ∧ μ y < μ x ∧ Sat g n (τ y) a ∧ Hp g (M y) w) :: K) (τ x) (M x)) : G P B g n (.code (.loop c) :: K) σ L := fun a w hs hw => by
  show (Code.loop c).wpIn (fnc g.rnd) 0 P _ a w
  classical
  let has : Act → World → Nat → Prop := fun a w m => ∃ x, F x ∧ Sat g n (τ x) a ∧ Hp g (M x) w ∧ μ x = m
  let ν : Act → World → Nat := fun a w => if hh : ∃ m, has a w m ∧ ∀ k, has a w k → m ≤ k then Classical.choose hh else 0
  refine wpIn_loop (fun a w => ∃ x, F x ∧ Sat g n (τ x) a ∧ Hp g (M x) w) ν ⟨x0, h0, hs.sub hσ, hw.mono hL⟩ ?_
  rintro a w ⟨x, fx, sx, wx⟩
  have hex : ∃ m, has a w m ∧ ∀ k, has a w k → m ≤ k := least_of ⟨μ x, x, fx, sx, wx, rfl⟩
  obtain ⟨⟨y, fy, sy, wy, ey⟩, _⟩ := Classical.choose_spec hex
  have e1 : ν a w = μ y := by
    show (if hh : ∃ m, has a w m ∧ ∀ k, has a w k → m ≤ k then Classical.choose hh else 0) = _
    rw [dif_pos hex]; exact ey.symm
  have h9 := h y fy a w sy wy
  have h8 : c.wpIn (fnc g.rnd) 0 P (Exit.then (fun a w => ∃ z, F z ∧ μ z < μ y ∧ Sat g n (τ z) a ∧ Hp g (M z) w) (Kq g.rnd P B K)) a w := by rw [Kq_inv]; exact h9
  refine Code.wpIn_mono (fun e a' w' q => ?_) h8
  cases e with
  | normal =>
    obtain ⟨z, fz, lz, sz, wz⟩ := q
    refine ⟨⟨z, fz, sz, wz⟩, ?_⟩
    have hz0 : has a' w' (μ z) := ⟨z, fz, sz, wz, rfl⟩
    have hz : ∃ m, has a' w' m ∧ ∀ k, has a' w' k → m ≤ k := least_of ⟨_, hz0⟩
    have : ν a' w' ≤ μ z := by
      show (if hh : ∃ m, has a' w' m ∧ ∀ k, has a' w' k → m ≤ k then Classical.choose hh else 0) ≤ _
      rw [dif_pos hz]; exact (Classical.choose_spec hz).2 _ hz0
    omega
  | _ => exact q
/-- Where a round, or a piece, ends. -/
theorem G_inv {ι : Type} {τ : ι → Env} {M : ι → List HP} {F : ι → Prop} (y : ι) (hf : F y) (hσ : envSub σ (τ y)) (hL : ∀ h, sat L h → sat (M y) h) :
    G P B g n (.inv (fun a w => ∃ y, F y ∧ Sat g n (τ y) a ∧ Hp g (M y) w) :: K) σ L := fun _ _ hs hw => ⟨y, hf, hs.sub hσ, hw.mono hL⟩
theorem G_round {ι : Type} {τ : ι → Env} {M : ι → List HP} {F : ι → Prop} {μ : ι → Nat} {m : Nat} (y : ι) (hf : F y) (hm : μ y < m) (hσ : envSub σ (τ y)) (hL : ∀ h, sat L h → sat (M y) h) :
    G P B g n (.inv (fun a w => ∃ y, F y ∧ μ y < m ∧ Sat g n (τ y) a ∧ Hp g (M y) w) :: K) σ L := fun _ _ hs hw => ⟨y, hf, hm, hs.sub hσ, hw.mono hL⟩
/-- A piece of code, and what holds behind it. -/
theorem G_cut {ι : Type} (τ : ι → Env) (M : ι → List HP) (F : ι → Prop) {c : Code}
    (h1 : G P B g n (.code c :: .inv (fun a w => ∃ y, F y ∧ Sat g n (τ y) a ∧ Hp g (M y) w) :: K) σ L) (h2 : ∀ y, F y → G P B g n K (τ y) (M y)) : G P B g n (.code c :: K) σ L := fun a w hs hw => by
  show c.wpIn (fnc g.rnd) 0 P _ a w
  have h9 := h1 a w hs hw
  have h8 : c.wpIn (fnc g.rnd) 0 P (Exit.then (fun a w => ∃ z, F z ∧ Sat g n (τ z) a ∧ Hp g (M z) w) (Kq g.rnd P B K)) a w := by rw [Kq_inv]; exact h9
  refine Code.wpIn_mono (fun e a' w' q => ?_) h8
  cases e with
  | normal => obtain ⟨z, fz, sz, wz⟩ := q; exact h2 z fz a' w' sz wz
  | _ => exact q

/-! A region whose order is laid down. -/
def GO (P : Program) (B : Exit → Act → World → Prop) (g : Glob) (n : Nat) (ops : Array Oper) (l : List Oper) (K : List Kt) (σ : Env) (L : List HP) : Prop :=
  ∀ a w, Sat g n σ a → Hp g L w → wpListIn (fnc g.rnd) 0 P ops (Kq g.rnd P B K) l a w
theorem G_region {id : Nat} {l : List Oper} (h : GO P B g n l.toArray l K σ L) : G P B g n (.code (.region id l.toArray false) :: K) σ L := fun a w hs hw =>
  wpIn_region_lit (h a w hs hw)
variable {ops : Array Oper} {l : List Oper}
theorem GO_nil (h : G P B g n K σ L) : GO P B g n ops [] K σ L := fun a w hs hw => h a w hs hw
def putE (σ : Env) : Option Nat → Value → Env
  | none, _ => σ
  | some t, v => (t, v) :: σ
def dstOk (n : Nat) : Option Nat → Bool
  | none => true
  | some t => Nat.blt t n
theorem Sat.put' {a : Act} (h : Sat g n σ a) {d : Option Nat} (v : Value) (hd : dstOk n d = true) : Sat g n (putE σ d v) (a.put d v) := by
  cases d with
  | none => exact h
  | some t => exact h.put v hd
theorem GO_eff {o : Oper} {post : Value → List HP → Prop} (hg : o.guard = none) (hd : dstOk n o.dst = true) (he : Eff P g L σ o post)
    (h : ∀ v L', post v L' → GO P B g n ops l K (putE σ o.dst v) L') : GO P B g n ops (o :: l) K σ L := fun a w hs hw => by
  refine wpListIn_plain hg fun Kx hK => ?_
  exact he.in_ hs.e hw fun v w' L' hp hw' => hK _ _ (h v L' hp _ _ (hs.put' v hd) hw')
theorem GO_q {o : Oper} {v : Value} (hg : o.guard = none) (hd : dstOk n o.dst = true) (he : Ev P L σ o v)
    (h : GO P B g n ops l K (putE σ o.dst v) L) : GO P B g n ops (o :: l) K σ L :=
  GO_eff hg hd he.eff fun u L' ⟨e1, e2⟩ => by subst e1 e2; exact h
theorem yielded_is {a : Act} (hs : SatE σ a) {j d : Nat} {b : Bool} (hj : (ops[j]?).bind (·.dst) = some d) (hd : σ.get d = some (.bool b)) : yielded ops a.tmps j = some b := by
  have := hs d _ hd
  simp [yielded, hj, this]
theorem GO_guard {dst : Option Nat} {op : Op} {ty : TypeId} {pos : String} {aft : Array Edge} {j d : Nat} {want b : Bool} (hj : (ops[j]?).bind (·.dst) = some d) (hd : σ.get d = some (.bool b)) (hdo : dstOk n dst = true)
    (h1 : b = want → GO P B g n ops (⟨dst, op, ty, pos, aft, none⟩ :: l) K σ L) (h2 : b = !want → GO P B g n ops l K (putE σ dst undef) L) :
    GO P B g n ops (⟨dst, op, ty, pos, aft, some (j, want)⟩ :: l) K σ L := fun a w hs hw => by
  have hy := yielded_is (ops := ops) hs.e hj hd
  unfold wpListIn
  simp only [Region.wanted, hy]
  by_cases hb : b = want
  · subst hb
    have := h1 rfl a w hs hw
    unfold wpListIn at this
    simp only [Region.wanted, if_true] at this
    simp only [beq_self_eq_true, if_true]
    exact this
  · have hb' : b = !want := by cases b <;> cases want <;> simp_all
    have := h2 hb' _ w (hs.put' undef hdo) hw
    rw [if_neg (by simp [hb])]
    exact ⟨fun _ _ => trivial, this⟩

theorem GO_yes {dst : Option Nat} {op : Op} {ty : TypeId} {pos : String} {aft : Array Edge} {j d : Nat} {want b : Bool} (hj : (ops[j]?).bind (·.dst) = some d) (hd : σ.get d = some (.bool b)) (hdo : dstOk n dst = true)
    (hb : b = want) (h1 : GO P B g n ops (⟨dst, op, ty, pos, aft, none⟩ :: l) K σ L) : GO P B g n ops (⟨dst, op, ty, pos, aft, some (j, want)⟩ :: l) K σ L :=
  GO_guard hj hd hdo (fun _ => h1) (fun e => by subst hb; cases b <;> cases e)
theorem GO_no {dst : Option Nat} {op : Op} {ty : TypeId} {pos : String} {aft : Array Edge} {j d : Nat} {want b : Bool} (hj : (ops[j]?).bind (·.dst) = some d) (hd : σ.get d = some (.bool b)) (hdo : dstOk n dst = true)
    (hb : b = !want) (h2 : GO P B g n ops l K (putE σ dst undef) L) : GO P B g n ops (⟨dst, op, ty, pos, aft, some (j, want)⟩ :: l) K σ L :=
  GO_guard hj hd hdo (fun e => by subst e; cases b <;> cases hb) (fun _ => h2)

theorem yielded_undef {a : Act} (hs : SatE σ a) {j d : Nat} (hj : (ops[j]?).bind (·.dst) = some d) (hd : σ.get d = some undef) : yielded ops a.tmps j = none := by
  have := hs d _ hd
  simp [yielded, hj, this, undef]
/-- Its guard was never asked. -/
theorem GO_undef {dst : Option Nat} {op : Op} {ty : TypeId} {pos : String} {aft : Array Edge} {j d : Nat} {want : Bool} (hj : (ops[j]?).bind (·.dst) = some d) (hd : σ.get d = some undef) (hdo : dstOk n dst = true)
    (h2 : GO P B g n ops l K (putE σ dst undef) L) : GO P B g n ops (⟨dst, op, ty, pos, aft, some (j, want)⟩ :: l) K σ L := fun a w hs hw => by
  have hy := yielded_undef (ops := ops) hs.e hj hd
  have := h2 _ w (hs.put' undef hdo) hw
  unfold wpListIn
  rw [if_neg (by simp [Region.wanted, hy])]
  exact ⟨fun _ _ => trivial, this⟩

/-! A region that draws its order. -/
def preds (ops : Array Oper) (i : Nat) : List Nat :=
  match ops[i]? with
  | none => []
  | some o => o.after.toList.filterMap fun e => if Region.binds .any e then some e.on else none
def reach (ops : Array Oper) : Nat → List Nat → List Nat
  | 0, F => F
  | k + 1, F => reach ops k ((F ++ F.flatMap (preds ops)).eraseDups)
/-- It looks at no memory. -/
def mvO (o : Oper) : Bool := match o.op with
  | .move _ | .assign _ | .pick _ _ _ | .nilCheck _ | .binOp _ _ _ _ _ | .unOp _ _ _ | .convert _ _ _ | .makeFunc _ _ _ | .fieldAddr _ _ _ | .field _ _ _ | .extract _ _ | .build _ _ | .indexAddr _ _ _ | .index _ _ _ => true
  | _ => false
def mvB (ops : Array Oper) (i : Nat) : Bool := match ops[i]? with
  | some o => mvO o
  | none => false
/-- Each other one comes ahead of it, or behind it, or looks at no memory, whatever the order. -/
def lastB (ops : Array Oper) (i : Nat) : Bool :=
  let r := reach ops 8 (preds ops i)
  (List.range ops.size).all fun k => Nat.beq k i || r.contains k || (reach ops 8 (preds ops k)).contains i || mvB ops k
def Closed (ops : Array Oper) (listed : Array Bool) : Prop := ∀ i, listed.getD i false = true → ∀ k ∈ preds ops i, listed.getD k false = true
theorem reach_listed {listed : Array Bool} (hc : Closed ops listed) : ∀ (k : Nat) (F : List Nat), (∀ i ∈ F, listed.getD i false = true) → ∀ i ∈ reach ops k F, listed.getD i false = true
  | 0, _, h => h
  | k + 1, F, h => reach_listed hc k _ fun i hi => by
    rw [List.mem_eraseDups, List.mem_append, List.mem_flatMap] at hi
    rcases hi with hi | ⟨j, hj, hi⟩
    · exact h i hi
    · exact hc j (h j hj) i hi
theorem preds_ready {listed : Array Bool} {i : Nat} (h : i ∈ Region.ready .any ops listed) : ∀ k ∈ preds ops i, listed.getD k false = true := by
  obtain ⟨_, o, ho, hall⟩ := mem_ready.1 h
  intro k hk
  simp only [preds, ho, List.mem_filterMap] at hk
  obtain ⟨e, he, hk⟩ := hk
  by_cases hb : Region.binds .any e = true
  · rw [if_pos hb] at hk
    rw [← Option.some.inj hk]
    exact hall e (by simpa using he) hb
  · rw [if_neg hb] at hk; cases hk
theorem Closed.step {listed : Array Bool} (hc : Closed ops listed) {i : Nat} (h : i ∈ Region.ready .any ops listed) : Closed ops (listed.setIfInBounds i true) := by
  intro j hj k hk
  by_cases hji : i = j
  · subst hji; exact getD_set_true (preds_ready h k hk)
  · rw [getD_set_ne false hji] at hj
    exact getD_set_true (hc j hj k hk)
theorem lastB_spec {listed : Array Bool} (hc : Closed ops listed) {i j : Nat} (h : i ∈ Region.ready .any ops listed) (h' : j ∈ Region.ready .any ops listed) (hl : lastB ops i = true) (hj : j < ops.size) (hne : j ≠ i) : mvB ops j = true := by
  simp only [lastB, List.all_eq_true, List.mem_range, Bool.or_eq_true, List.contains_iff_mem] at hl
  have no : ∀ {k : Nat}, k ∈ Region.ready .any ops listed → listed.getD k false = true → False := fun {k} hk h7 => by
    have h8 := (mem_ready.1 hk).1
    rcases Nat.lt_or_ge k listed.size with h9 | h9
    · simp [h9] at h7 h8; rw [h7] at h8; cases h8
    · simp [Array.getElem?_eq_none h9] at h7
  rcases hl j hj with ((h9 | h9) | h9) | h9
  · exact absurd (Nat.eq_of_beq_eq_true h9) hne
  · exact (no h' (reach_listed hc _ _ (preds_ready h) j h9)).elim
  · exact (no h (reach_listed hc _ _ (preds_ready h') i h9)).elim
  · exact h9

def wpAnyC (P : Program) (ops : Array Oper) (Q : Exit → Act → World → Prop) : (World → Prop) → Nat → Array Bool → Act → World → Prop
  | _, 0, listed, a, w => Region.ready .any ops listed = [] ∧ Q .normal a w
  | S, fuel + 1, listed, a, w =>
    (Region.ready .any ops listed = [] → Q .normal a w) ∧
    ∀ i ∈ Region.ready .any ops listed, wpOp P ops Q i (fun a' w' => (lastB ops i = true ∧ ∃ S2 : World → Prop, S2 w' ∧ wpAnyC P ops Q S2 fuel (listed.setIfInBounds i true) a' w') ∨ (S w' ∧ wpAnyC P ops Q S fuel (listed.setIfInBounds i true) a' w')) a w

section
variable {Q : Exit → Act → World → Prop} {S S' : World → Prop}
theorem wpAny_of_C : ∀ (fuel : Nat) (S : World → Prop) (listed : Array Bool) (a : Act) (w : World), wpAnyC P ops Q S fuel listed a w → wpAny P .any ops Q fuel listed a w
  | 0, _, _, _, _, h => h
  | fuel + 1, S, _, _, _, h => ⟨h.1, fun i hi => wpOp_mono (fun a' w' h' => by
    rcases h' with ⟨_, S2, _, h'⟩ | ⟨_, h'⟩
    · exact wpAny_of_C fuel S2 _ a' w' h'
    · exact wpAny_of_C fuel S _ a' w' h') (h.2 i hi)⟩
theorem wpAnyC_mono (hS : ∀ w, S' w → S w) : ∀ (fuel : Nat) (listed : Array Bool) (a : Act) (w : World), wpAnyC P ops Q S' fuel listed a w → wpAnyC P ops Q S fuel listed a w
  | 0, _, _, _, h => h
  | fuel + 1, _, _, _, h => ⟨h.1, fun i hi => wpOp_mono (fun a' w' h' => by
    rcases h' with h' | ⟨h1, h2⟩
    · exact .inl h'
    · exact .inr ⟨hS _ h1, wpAnyC_mono hS fuel _ a' w' h2⟩) (h.2 i hi)⟩

theorem wpAnyC_first {i : Nat} {oi : Oper} {v : Value} (hi : ops[i]? = some oi) (hsel : ∀ (j : Nat) (o : Oper) cs b, ops[j]? = some o → o.op ≠ .select cs b)
    (hQ : ∀ c a w, Q (.panic c) (a.put oi.dst v) w → Q (.panic c) a w) (Sy : World → Prop) (hmv : mvB ops i = true → ∀ w, Sy w) :
    ∀ (fuel : Nat) (S : World → Prop) (listed : Array Bool) (a : Act) (w : World), (∀ w, S w → Sy w) → Closed ops listed →
      (∀ j oj, ops[j]? = some oj → j ≠ i → listed.getD j true = false → (∀ e ∈ oj.after, Region.binds .any e = true → e.on ≠ i) → oi.apart ops oj = true) →
      i ∈ Region.ready .any ops listed → YieldsIf P ops Sy oi v a → S w →
      wpAnyC P ops Q S fuel (listed.setIfInBounds i true) (a.put oi.dst v) w → wpAnyC P ops Q S (fuel + 1) listed a w := by
  intro fuel
  induction fuel with
  | zero =>
    intro S listed a w hSy _ _ hr hy hS H
    refine ⟨fun h => (by rw [h] at hr; cases hr), fun j hj => ?_⟩
    by_cases hji : j = i
    · subst hji; exact hy.wpOp hi (hSy _ hS) (.inr ⟨hS, H⟩)
    · have := ready_mono hj hji
      rw [H.1] at this
      cases this
  | succ fuel ih =>
    intro S listed a w hSy hcl hfree hr hy hS H
    refine ⟨fun h => (by rw [h] at hr; cases hr), fun j hj => ?_⟩
    by_cases hji : j = i
    · subst hji; exact hy.wpOp hi (hSy _ hS) (.inr ⟨hS, H⟩)
    · have h1 := H.2 j (ready_mono hj hji)
      obtain ⟨hjun, oj, hoj, hall⟩ := mem_ready.1 hj
      have hnot : ∀ e ∈ oj.after, Region.binds .any e = true → e.on ≠ i := fun e he hb heq => by
        have h1 := hall e he hb
        have h0 := (mem_ready.1 hr).1
        rw [heq] at h1
        rcases Nat.lt_or_ge i listed.size with h' | h'
        · simp [h'] at h0 h1; rw [h0] at h1; cases h1
        · simp [Array.getElem?_eq_none h'] at h1
      have h2 := wpOp_putIf hoj (hfree j oj hoj hji hjun hnot) (fun cs b => hsel i oi cs b hi) (fun cs b => hsel j oj cs b hoj) hQ hy h1
      have hfree' : ∀ k ok, ops[k]? = some ok → k ≠ i → (listed.setIfInBounds j true).getD k true = false →
          (∀ e ∈ ok.after, Region.binds .any e = true → e.on ≠ i) → oi.apart ops ok = true := fun k ok hk hki hun hno => by
        refine hfree k ok hk hki ?_ hno
        by_cases hjk : j = k
        · subst hjk; exact hjun
        · rw [getD_set_ne true hjk] at hun; exact hun
      have hri : i ∈ Region.ready .any ops (listed.setIfInBounds j true) := ready_mono hr (Ne.symm hji)
      refine wpOp_mono (fun a' w' h3 => ?_) h2
      obtain ⟨h4, h5⟩ := h3
      rcases h5 with ⟨hl, S2, hS2, h6⟩ | ⟨h5', h6⟩
      · have hm := hmv (lastB_spec hcl hj hr hl (Array.getElem?_eq_some_iff.1 hi).1 (Ne.symm hji))
        refine .inl ⟨hl, S2, hS2, ih S2 (listed.setIfInBounds j true) a' w' (fun w _ => hm w) (hcl.step hj) hfree' hri h4 hS2 ?_⟩
        rw [Array.setIfInBounds_comm _ _ hji]
        exact h6
      · refine .inr ⟨h5', ih S (listed.setIfInBounds j true) a' w' hSy (hcl.step hj) hfree' hri h4 h5' ?_⟩
        rw [Array.setIfInBounds_comm _ _ hji]
        exact h6
end

/-- The order in which one looks at them: quiet ones as soon as they may come up; one that does more, when no other one may. -/
inductive Scr where
  | nil
  | q (i : Nat) (s : Scr)
  | e (i : Nat) (s : Scr)
  | br (i : Nat) (s : Scr) (j : Nat) (t : Scr)
  | br3 (i : Nat) (s : Scr) (j : Nat) (t : Scr) (k : Nat) (u : Scr)
def Scr.len : Scr → Nat
  | .nil => 0
  | .q _ s | .e _ s | .br _ s _ _ | .br3 _ s _ _ _ _ => s.len + 1
def scrB (ops : Array Oper) : Scr → Array Bool → Bool
  | .nil, listed => (Region.ready .any ops listed).isEmpty
  | .q i s, listed => (Region.ready .any ops listed).contains i && Region.free .any ops listed i && scrB ops s (listed.setIfInBounds i true)
  | .e i s, listed => (Region.ready .any ops listed) == [i] && scrB ops s (listed.setIfInBounds i true)
  | .br i s j t, listed => (Region.ready .any ops listed) == [i, j] && Nat.beq s.len t.len && scrB ops s (listed.setIfInBounds i true) && scrB ops t (listed.setIfInBounds j true)
  | .br3 i s j t k u, listed => (Region.ready .any ops listed) == [i, j, k] && Nat.beq s.len t.len && Nat.beq s.len u.len && scrB ops s (listed.setIfInBounds i true) && scrB ops t (listed.setIfInBounds j true) && scrB ops u (listed.setIfInBounds k true)

def RS (P : Program) (B : Exit → Act → World → Prop) (g : Glob) (n : Nat) (ops : List Oper) (S : List HP) (s : Scr) (K : List Kt) (σ : Env) (L : List HP) : Prop :=
  ∀ listed, Region.noSelect ops.toArray = true → Closed ops.toArray listed → scrB ops.toArray s listed = true → (∀ h, sat L h → sat S h) → ∀ a w, Sat g n σ a → Hp g L w →
    wpAnyC P ops.toArray (Kq g.rnd P B K) (fun w => sat S w.hm) s.len listed a w
def noPanic (Q : Exit → Act → World → Prop) : Prop := ∀ c a w, ¬ Q (.panic c) a w
theorem G_draw {id : Nat} {l : List Oper} (s : Scr) (hm : P.follows .mixedOrders = true) (hB : (noDefL l && (Region.noSelect l.toArray && Nat.beq s.len l.length && scrB l.toArray s (Array.replicate l.length false))) = true)
    (h : RS P B g n l L s K σ L) : G P B g n (.code (.region id l.toArray true) :: K) σ L := fun a w hs hw => by
  simp only [Bool.and_eq_true] at hB
  obtain ⟨h0, ⟨h1, h2⟩, h3⟩ := hB
  refine wpIn_region_any hm (wpAny_in h0 Kq_in _ _ _ _ <| wpAny_of_C (S := fun w => sat L w.hm) _ _ _ _ ?_)
  have e : l.toArray.size = s.len := by rw [Nat.eq_of_beq_eq_true h2]; rfl
  rw [e]
  refine h (Array.replicate s.len false) h1 (fun i hi => ?_) (by rw [← e]; simpa using h3) (fun _ h => h) a _ hs hw.drew
  exfalso
  rcases Nat.lt_or_ge i s.len with h' | h'
  · simp [h'] at hi
  · simp [h'] at hi
/-- A list without its k-th part. -/
def eraseN : List HP → Nat → List HP
  | [], _ => []
  | _ :: L, 0 => L
  | A :: L, k + 1 => A :: eraseN L k
theorem sat.eraseN : ∀ {L : List HP} (k : Nat) {h : Hm}, sat L h → sat (eraseN L k) h
  | [], _, _, s => s
  | _ :: _, 0, _, s => s.tail
  | _ :: _, k + 1, _, s => s.cons_mono fun _ s => sat.eraseN k s
theorem G_drawS {id : Nat} {l : List Oper} (S : List HP) (s : Scr) (hS : ∀ h, sat L h → sat S h) (hm : P.follows .mixedOrders = true) (hB : (noDefL l && (Region.noSelect l.toArray && Nat.beq s.len l.length && scrB l.toArray s (Array.replicate l.length false))) = true)
    (h : RS P B g n l S s K σ L) : G P B g n (.code (.region id l.toArray true) :: K) σ L := fun a w hs hw => by
  simp only [Bool.and_eq_true] at hB
  obtain ⟨h0, ⟨h1, h2⟩, h3⟩ := hB
  refine wpIn_region_any hm (wpAny_in h0 Kq_in _ _ _ _ <| wpAny_of_C (S := fun w => sat S w.hm) _ _ _ _ ?_)
  have e : l.toArray.size = s.len := by rw [Nat.eq_of_beq_eq_true h2]; rfl
  rw [e]
  refine h (Array.replicate s.len false) h1 (fun i hi => ?_) (by rw [← e]; simpa using h3) hS a _ hs hw.drew
  exfalso
  rcases Nat.lt_or_ge i s.len with h' | h'
  · simp [h'] at hi
  · simp [h'] at hi
theorem G_drawE {id : Nat} {l : List Oper} (k : Nat) (s : Scr) (hm : P.follows .mixedOrders = true) (hB : (noDefL l && (Region.noSelect l.toArray && Nat.beq s.len l.length && scrB l.toArray s (Array.replicate l.length false))) = true)
    (h : RS P B g n l (eraseN L k) s K σ L) : G P B g n (.code (.region id l.toArray true) :: K) σ L := G_drawS _ s (fun _ s => s.eraseN k) hm hB h
variable {S : List HP} {s t : Scr} {lo : List Oper}
theorem RS_nil (h : G P B g n K σ L) : RS P B g n lo S .nil K σ L := fun listed _ _ hB _ a w hs hw =>
  ⟨by simpa [scrB] using hB, h a w hs hw⟩
theorem Kq_noPanic (hB : noPanic B) : ∀ K, noPanic (Kq g.rnd P B K)
  | [] => hB
  | .code _ :: K => fun c a w => Kq_noPanic hB K c a w
  | .blk _ :: K => fun c a w => Kq_noPanic hB K c a w
  | .inv _ :: K => fun c a w => Kq_noPanic hB K c a w
theorem G_pure {φ : Prop} (f : ∀ h, sat L h → φ) (h : φ → G P B g n K σ L) : G P B g n K σ L := fun a w hs hw => h (f _ hw.s) a w hs hw
theorem RS_put {i : Nat} {o : Oper} {v : Value} {Sy : List HP} (hSy : ∀ h, sat S h → sat Sy h) (hmo : mvO o = true → Sy = []) (hB : noPanic B) (hi : lo[i]? = some o) (hd : dstOk n o.dst = true) (hy : ∀ a, Sat g n σ a → YieldsIf P lo.toArray (fun w => sat Sy w.hm) o v a)
    (h : RS P B g n lo S s K (putE σ o.dst v) L) : RS P B g n lo S (.q i s) K σ L := fun listed h1 hcl h2 hL a w hs hw => by
  simp only [scrB, Bool.and_eq_true] at h2
  obtain ⟨⟨h3, h4⟩, h5⟩ := h2
  have hi' : lo.toArray[i]? = some o := by simpa using hi
  have hr : i ∈ Region.ready .any lo.toArray listed := by simpa using h3
  have hQ : ∀ c a w, Kq g.rnd P B K (.panic c) (a.put o.dst v) w → Kq g.rnd P B K (.panic c) a w := fun c a w hq => absurd hq (Kq_noPanic hB K c _ w)
  have hgo := h _ h1 (hcl.step hr) h5 hL _ w (hs.put' v hd) hw
  refine wpAnyC_first hi' (Region.noSelect_spec h1) hQ (fun w => sat Sy w.hm) (fun e w => ?_) _ (fun w => sat S w.hm) listed a w (fun w h => hSy _ h) hcl (Region.free_spec hi' h4) hr (hy a hs) (hL _ hw.s) hgo
  have e2 : mvO o = true := by
    unfold mvB at e
    rw [hi'] at e
    exact e
  rw [hmo e2]
  trivial
theorem RS_q {i : Nat} {o : Oper} {v : Value} (hB : noPanic B) (hi : lo[i]? = some o) (hm : mvO o = false) (hg : o.guard = none) (hd : dstOk n o.dst = true) (he : Ev P S σ o v)
    (h : RS P B g n lo S s K (putE σ o.dst v) L) : RS P B g n lo S (.q i s) K σ L :=
  RS_put (Sy := S) (fun _ h => h) (fun e => by rw [hm] at e; cases e) hB hi hd (fun a hs => .inl ⟨by simp [Region.wanted, hg], fun w hw => he a w hs.e hw⟩) h
/-- One that looks at no memory. -/
theorem RS_m {i : Nat} {o : Oper} {v : Value} (hB : noPanic B) (hi : lo[i]? = some o) (_hm : mvO o = true) (hg : o.guard = none) (hd : dstOk n o.dst = true) (he : Ev P [] σ o v)
    (h : RS P B g n lo S s K (putE σ o.dst v) L) : RS P B g n lo S (.q i s) K σ L :=
  RS_put (Sy := []) (fun _ _ => trivial) (fun _ => rfl) hB hi hd (fun a hs => .inl ⟨by simp [Region.wanted, hg], fun w hw => he a w hs.e hw⟩) h
/-- A guarded one, whose guard's value is known. -/
theorem RS_q_yes {i j d : Nat} {o : Oper} {v : Value} {b : Bool} (hB : noPanic B) (hi : lo[i]? = some o) (hm : mvO o = false) (hg : o.guard = some (j, b)) (hj : (lo[j]?).bind (·.dst) = some d) (hb : ∃ b', σ.get d = some (.bool b') ∧ b' = b) (hd : dstOk n o.dst = true) (he : Ev P S σ o v)
    (h : RS P B g n lo S s K (putE σ o.dst v) L) : RS P B g n lo S (.q i s) K σ L := by
  obtain ⟨b', hb, rfl⟩ := hb
  exact RS_put (Sy := S) (fun _ h => h) (fun e => by rw [hm] at e; cases e) hB hi hd (fun a hs => .inl ⟨by simp [Region.wanted, hg, yielded_is (ops := lo.toArray) hs.e (by simpa using hj) hb], fun w hw => he a w hs.e hw⟩) h
theorem RS_m_yes {i j d : Nat} {o : Oper} {v : Value} {b : Bool} (hB : noPanic B) (hi : lo[i]? = some o) (_hm : mvO o = true) (hg : o.guard = some (j, b)) (hj : (lo[j]?).bind (·.dst) = some d) (hb : ∃ b', σ.get d = some (.bool b') ∧ b' = b) (hd : dstOk n o.dst = true) (he : Ev P [] σ o v)
    (h : RS P B g n lo S s K (putE σ o.dst v) L) : RS P B g n lo S (.q i s) K σ L := by
  obtain ⟨b', hb, rfl⟩ := hb
  exact RS_put (Sy := []) (fun _ _ => trivial) (fun _ => rfl) hB hi hd (fun a hs => .inl ⟨by simp [Region.wanted, hg, yielded_is (ops := lo.toArray) hs.e (by simpa using hj) hb], fun w hw => he a w hs.e hw⟩) h
theorem RS_q_no {i j d : Nat} {o : Oper} {b : Bool} (hB : noPanic B) (hi : lo[i]? = some o) (hg : o.guard = some (j, b)) (hj : (lo[j]?).bind (·.dst) = some d) (hb : ∃ b', σ.get d = some (.bool b') ∧ b' = !b) (hd : dstOk n o.dst = true)
    (h : RS P B g n lo S s K (putE σ o.dst undef) L) : RS P B g n lo S (.q i s) K σ L := by
  obtain ⟨b', hb, rfl⟩ := hb
  exact RS_put (Sy := []) (fun _ _ => trivial) (fun _ => rfl) hB hi hd (fun a hs => .inr ⟨by simp [Region.wanted, hg, yielded_is (ops := lo.toArray) hs.e (by simpa using hj) hb], rfl⟩) h
theorem RS_q_undef {i j d : Nat} {o : Oper} {b : Bool} (hB : noPanic B) (hi : lo[i]? = some o) (hg : o.guard = some (j, b)) (hj : (lo[j]?).bind (·.dst) = some d) (hb : σ.get d = some undef) (hd : dstOk n o.dst = true)
    (h : RS P B g n lo S s K (putE σ o.dst undef) L) : RS P B g n lo S (.q i s) K σ L :=
  RS_put (Sy := []) (fun _ _ => trivial) (fun _ => rfl) hB hi hd (fun a hs => .inr ⟨by simp [Region.wanted, hg, yielded_undef (ops := lo.toArray) hs.e (by simpa using hj) hb], rfl⟩) h
/-- One that does more comes up. -/
def RE (P : Program) (B : Exit → Act → World → Prop) (g : Glob) (n : Nat) (ops : List Oper) (S : List HP) (i : Nat) (s : Scr) (K : List Kt) (σ : Env) (L : List HP) : Prop :=
  ∀ listed, Region.noSelect ops.toArray = true → Closed ops.toArray listed → i ∈ Region.ready .any ops.toArray listed → scrB ops.toArray s (listed.setIfInBounds i true) = true → (∀ h, sat L h → sat S h) → ∀ a w, Sat g n σ a → Hp g L w →
    wpOp P ops.toArray (Kq g.rnd P B K) i (fun a' w' => (lastB ops.toArray i = true ∧ ∃ S2 : World → Prop, S2 w' ∧ wpAnyC P ops.toArray (Kq g.rnd P B K) S2 s.len (listed.setIfInBounds i true) a' w') ∨ (sat S w'.hm ∧ wpAnyC P ops.toArray (Kq g.rnd P B K) (fun w => sat S w.hm) s.len (listed.setIfInBounds i true) a' w')) a w
theorem RS_e {i : Nat} (h : RE P B g n lo S i s K σ L) : RS P B g n lo S (.e i s) K σ L := fun listed h1 hcl h2 hL a w hs hw => by
  simp only [scrB, Bool.and_eq_true, beq_iff_eq] at h2
  obtain ⟨h3, h5⟩ := h2
  refine ⟨fun h0 => (by rw [h3] at h0; cases h0), fun j hj => ?_⟩
  have hr := hj
  rw [h3, List.mem_singleton] at hj
  subst hj
  exact h listed h1 hcl hr h5 hL a w hs hw
theorem RS_br {i j : Nat} (h : RE P B g n lo S i s K σ L) (h' : RE P B g n lo S j t K σ L) : RS P B g n lo S (.br i s j t) K σ L := fun listed h1 hcl h2 hL a w hs hw => by
  simp only [scrB, Bool.and_eq_true, beq_iff_eq] at h2
  obtain ⟨⟨⟨h3, h4⟩, h5⟩, h6⟩ := h2
  refine ⟨fun h0 => (by rw [h3] at h0; cases h0), fun k hk => ?_⟩
  have hr := hk
  rw [h3, List.mem_cons, List.mem_singleton] at hk
  rcases hk with rfl | rfl
  · exact h listed h1 hcl hr h5 hL a w hs hw
  · have := h' listed h1 hcl hr h6 hL a w hs hw
    rw [← Nat.eq_of_beq_eq_true h4] at this
    exact this
theorem RE_eff {i : Nat} {o : Oper} {post : Value → List HP → Prop} (hi : lo[i]? = some o) (hg : o.guard = none) (hd : dstOk n o.dst = true) (he : Eff P g L σ o post)
    (h : ∀ v L', post v L' → ∃ S', (∀ h, sat L' h → sat S' h) ∧ (∀ h, sat S' h → sat S h) ∧ RS P B g n lo S' s K (putE σ o.dst v) L') : RE P B g n lo S i s K σ L := fun listed h1 hcl hr h5 hL a w hs hw => by
  have hi' : lo.toArray[i]? = some o := by simpa using hi
  unfold wpOp
  simp only [hi', Region.wanted, hg, if_true]
  refine .inl (he a w hs.e hw _ _ fun v w' L' hp hw' => ?_)
  obtain ⟨S', hLS, hSS, hrs⟩ := h v L' hp
  refine .inr ⟨hSS _ (hLS _ hw'.s), ?_⟩
  exact wpAnyC_mono (fun w hw => hSS _ hw) _ _ _ _ (hrs _ h1 (hcl.step hr) h5 hLS _ _ (hs.put' v hd) hw')
theorem RS_guard {d : Nat} {b : Bool} (want : Bool) (_hd : σ.get d = some (.bool b)) (h1 : b = want → RS P B g n lo S s K σ L) (h2 : b = !want → RS P B g n lo S s K σ L) : RS P B g n lo S s K σ L := by
  cases b <;> cases want
  · exact h1 rfl
  · exact h2 rfl
  · exact h2 rfl
  · exact h1 rfl
theorem RE_eff_yes {i j d : Nat} {o : Oper} {b : Bool} {post : Value → List HP → Prop} (hi : lo[i]? = some o) (hg : o.guard = some (j, b)) (hj : (lo[j]?).bind (·.dst) = some d) (hb : ∃ b', σ.get d = some (.bool b') ∧ b' = b) (hd : dstOk n o.dst = true) (he : Eff P g L σ o post)
    (h : ∀ v L', post v L' → ∃ S', (∀ h, sat L' h → sat S' h) ∧ (∀ h, sat S' h → sat S h) ∧ RS P B g n lo S' s K (putE σ o.dst v) L') : RE P B g n lo S i s K σ L := fun listed h1 hcl hr h5 hL a w hs hw => by
  obtain ⟨b', hb, rfl⟩ := hb
  have hi' : lo.toArray[i]? = some o := by simpa using hi
  unfold wpOp
  simp only [hi', Region.wanted, hg, yielded_is (ops := lo.toArray) hs.e (by simpa using hj) hb, beq_self_eq_true, if_true]
  refine .inl (he a w hs.e hw _ _ fun v w' L' hp hw' => ?_)
  obtain ⟨S', hLS, hSS, hrs⟩ := h v L' hp
  refine .inr ⟨hSS _ (hLS _ hw'.s), ?_⟩
  exact wpAnyC_mono (fun w hw => hSS _ hw) _ _ _ _ (hrs _ h1 (hcl.step hr) h5 hLS _ _ (hs.put' v hd) hw')
theorem RE_no {i j d : Nat} {o : Oper} {b : Bool} (hi : lo[i]? = some o) (hg : o.guard = some (j, b)) (hj : (lo[j]?).bind (·.dst) = some d) (hb : ∃ b', σ.get d = some (.bool b') ∧ b' = !b) (hd : dstOk n o.dst = true)
    (h : RS P B g n lo S s K (putE σ o.dst undef) L) : RE P B g n lo S i s K σ L := fun listed h1 hcl hr h5 hL a w hs hw => by
  obtain ⟨b', hb, rfl⟩ := hb
  have hi' : lo.toArray[i]? = some o := by simpa using hi
  unfold wpOp
  simp only [hi', Region.wanted, hg, yielded_is (ops := lo.toArray) hs.e (by simpa using hj) hb]
  have e : (some (!b) == some b) = false := by cases b <;> rfl
  simp only [e]
  exact .inr ⟨hL _ hw.s, h _ h1 (hcl.step hr) h5 hL _ _ (hs.put' undef hd) hw⟩
theorem RE_undef {i j d : Nat} {o : Oper} {b : Bool} (hi : lo[i]? = some o) (hg : o.guard = some (j, b)) (hj : (lo[j]?).bind (·.dst) = some d) (hb : σ.get d = some undef) (hd : dstOk n o.dst = true)
    (h : RS P B g n lo S s K (putE σ o.dst undef) L) : RE P B g n lo S i s K σ L := fun listed h1 hcl hr h5 hL a w hs hw => by
  have hi' : lo.toArray[i]? = some o := by simpa using hi
  have hy := yielded_undef (ops := lo.toArray) hs.e (by simpa using hj) hb
  have e : (yielded lo.toArray a.tmps j == some b) = false := by rw [hy]; rfl
  unfold wpOp
  simp only [hi', Region.wanted, hg, e]
  exact .inr ⟨hL _ hw.s, h _ h1 (hcl.step hr) h5 hL _ _ (hs.put' undef hd) hw⟩
/-- The last one of all. -/
theorem RE_last {i : Nat} {o : Oper} {post : Value → List HP → Prop} (hl : lastB lo.toArray i = true) (hi : lo[i]? = some o) (hg : o.guard = none) (hd : dstOk n o.dst = true) (he : Eff P g L σ o post)
    (h : ∀ v L', post v L' → G P B g n K (putE σ o.dst v) L') : RE P B g n lo S i .nil K σ L := fun listed h1 hcl hr h5 hL a w hs hw => by
  have hi' : lo.toArray[i]? = some o := by simpa using hi
  unfold wpOp
  simp only [hi', Region.wanted, hg, if_true]
  exact .inl (he a w hs.e hw _ _ fun v w' L' hp hw' => .inl ⟨hl, fun _ => True, trivial, by simpa [scrB] using h5, h v L' hp _ _ (hs.put' v hd) hw'⟩)
/-- One that each other one comes ahead of, or behind: what the quiet ones lean on may turn. -/
theorem RE_cmp {i : Nat} {o : Oper} {post : Value → List HP → Prop} (hl : lastB lo.toArray i = true) (hi : lo[i]? = some o) (hg : o.guard = none) (hd : dstOk n o.dst = true) (he : Eff P g L σ o post)
    (h : ∀ v L', post v L' → RS P B g n lo L' s K (putE σ o.dst v) L') : RE P B g n lo S i s K σ L := fun listed h1 hcl hr h5 hL a w hs hw => by
  have hi' : lo.toArray[i]? = some o := by simpa using hi
  unfold wpOp
  simp only [hi', Region.wanted, hg, if_true]
  exact .inl (he a w hs.e hw _ _ fun v w' L' hp hw' => .inl ⟨hl, fun w => sat L' w.hm, hw'.s, h v L' hp _ h1 (hcl.step hr) h5 (fun _ s => s) _ _ (hs.put' v hd) hw'⟩)
theorem RE_cmp_yes {i j d : Nat} {o : Oper} {b : Bool} {post : Value → List HP → Prop} (hl : lastB lo.toArray i = true) (hi : lo[i]? = some o) (hg : o.guard = some (j, b)) (hj : (lo[j]?).bind (·.dst) = some d) (hb : ∃ b', σ.get d = some (.bool b') ∧ b' = b) (hd : dstOk n o.dst = true) (he : Eff P g L σ o post)
    (h : ∀ v L', post v L' → RS P B g n lo L' s K (putE σ o.dst v) L') : RE P B g n lo S i s K σ L := fun listed h1 hcl hr h5 hL a w hs hw => by
  obtain ⟨b', hb, rfl⟩ := hb
  have hi' : lo.toArray[i]? = some o := by simpa using hi
  unfold wpOp
  simp only [hi', Region.wanted, hg, yielded_is (ops := lo.toArray) hs.e (by simpa using hj) hb, beq_self_eq_true, if_true]
  exact .inl (he a w hs.e hw _ _ fun v w' L' hp hw' => .inl ⟨hl, fun w => sat L' w.hm, hw'.s, h v L' hp _ h1 (hcl.step hr) h5 (fun _ s => s) _ _ (hs.put' v hd) hw'⟩)
end

/-! A whole function. -/
section
variable {P : Program} {fn : Func} {g : Glob} {n : Nat} {K : List Kt} {σ : Env} {L : List HP}
def argsE (args : List Value) : Nat → Env
  | k => match args with
    | [] => []
    | v :: l => (k, v) :: argsE l (k + 1)
/-- How a function ends. -/
def retB (P : Program) (fn : Func) (g : Glob) (F : HP) (post : Value → List HP → Prop) : Exit → Act → World → Prop
  | .normal, a, w | .ret, a, w => a.defers = g.dfs ∧ ∃ v, (results fn a.tmps).run P w = .ok v w ∧ ∃ L', post v L' ∧ Hp g (F :: L') w
  | _, _, _ => False
theorem retB_body {P : Program} {fn : Func} {g : Glob} {F : HP} {post : Value → List HP → Prop} : ∀ e a w, retB P fn g.base F post e a w → bodyPost P fn (fun e w' => ∃ v L', e = .returned v ∧ post v L' ∧ Hp g (F :: L') w') e a w := fun e a w h => by
  cases e with
  | normal => obtain ⟨h1, v, h2, L', h3, h4⟩ := h; exact ⟨h1, v, h2, v, L', rfl, h3, h4.of_base⟩
  | ret => obtain ⟨h1, v, h2, L', h3, h4⟩ := h; exact ⟨h1, v, h2, v, L', rfl, h3, h4.of_base⟩
  | _ => exact h.elim
theorem en_keep {A : HP} {L M : List HP} (f : ∀ h, sat L h → sat M h) : ∀ h, sat (A :: L) h → sat (A :: M) h := fun _ s => s.cons_mono f
theorem en_drop {A : HP} {L M : List HP} (f : ∀ h, sat L h → sat M h) : ∀ h, sat (A :: L) h → sat M h := fun _ s => f _ s.tail
theorem retB_noPanic {F : HP} {post : Value → List HP → Prop} : noPanic (retB P fn g F post) := fun _ _ _ h => h
theorem argsE_get (args : List Value) : ∀ (k t : Nat) (v : Value), (argsE args k).get t = some v → ∃ j, t = k + j ∧ args[j]? = some v := by
  induction args with
  | nil => intro k t v h; cases h
  | cons u l ih =>
    intro k t v h
    simp only [argsE, Env.get] at h
    cases hb : Nat.beq k t with
    | true => rw [hb] at h; exact ⟨0, (Nat.eq_of_beq_eq_true hb).symm, by simpa using h⟩
    | false =>
      rw [hb] at h
      obtain ⟨j, e, hj⟩ := ih (k + 1) t v (by simpa using h)
      exact ⟨j + 1, by omega, by simpa using hj⟩
theorem Ctr_of {f : FuncId} {c : Code} {args : List Value} {post : Value → List HP → Prop} (hf : P.funcs[f]? = some fn) (hb : fn.body = some c) (hn : fn.ntmps = n) (hlen : Nat.ble args.length n = true)
    (h : ∀ g F, G P (retB P fn g F post) g n [.code c] (argsE args 0) (F :: L)) : Ctr P f args.toArray L post := fun g F w hw => by
  refine calls_of_wp hf hb ?_
  have hsz : args.toArray.size ≤ fn.ntmps := by rw [hn]; exact Nat.le_of_ble_eq_true hlen
  have := h g.base F { tmps := args.toArray ++ Array.replicate (fn.ntmps - args.toArray.size) undef, defers := [] } w ⟨by simp at hsz ⊢; omega, rfl, fun t v e => ?_⟩ hw.base
  · exact Code.wp_mono (fun e a w h => by cases e <;> first | exact retB_body _ _ _ h | exact h.elim) (wpIn_wide.1 this)
  · obtain ⟨j, rfl, hj⟩ := argsE_get args 0 t v e
    have hlt : j < args.length := (List.getElem?_eq_some_iff.1 hj).1
    rw [Nat.zero_add, Array.getElem?_append_left (by simpa using hlt)]
    simpa using hj
/-- What the result variables hold. -/
inductive Res (P : Program) (σ : Env) (L : List HP) : List ResultVar → List Value → Prop where
  | nil : Res P σ L [] []
  | tmp {t : Nat} {v : Value} {rs : List ResultVar} {vs : List Value} (h : σ.get t = some v) (r : Res P σ L rs vs) : Res P σ L (.tmp t :: rs) (v :: vs)
  | cell {a : Nat} {t : TypeId} {p : Addr} {v : Value} {rs : List ResultVar} {vs : List Value} (h : σ.get a = some (.pointer (some p))) (hl : ∀ w, sat L w.hm → (loadVar t p).run P w = .ok v w) (r : Res P σ L rs vs) : Res P σ L (.cell a t :: rs) (v :: vs)
def retv : List Value → Value
  | [v] => v
  | vs => .tuple vs.toArray
theorem Res.run {rs : List ResultVar} {vs : List Value} (h : Res P σ L rs vs) {a : Act} {w : World} (hs : SatE σ a) (hw : sat L w.hm) : 
    (rs.mapM (m := Sem) fun | .tmp t => pure (a.tmps.getD t undef) | .cell c t => do loadVar t (← asAddr (a.tmps.getD c undef))).run P w = .ok vs w := by
  induction h with
  | nil => rfl
  | @tmp t v rs vs h r ih =>
    have e : a.tmps.getD t undef = v := by rw [Array.getD_eq_getD_getElem?, hs _ _ h, Option.getD_some]
    simp only [List.mapM_cons, Sem.run_bind, Sem.run_pure, Result.andThen_ok, ih, e]
  | @cell c t p v rs vs h hl r ih =>
    have e : a.tmps.getD c undef = .pointer (some p) := by rw [Array.getD_eq_getD_getElem?, hs _ _ h, Option.getD_some]
    have ea : asAddr (.pointer (some p)) = (pure p : Sem Addr) := rfl
    simp only [List.mapM_cons, Sem.run_bind, Sem.run_pure, Result.andThen_ok, ih, e, ea, hl w hw]
theorem G_ret {rs : List ResultVar} {vs : List Value} {L' : List HP} {F : HP} {post : Value → List HP → Prop} (hr : fn.results = rs.toArray) (h : Res P σ L rs vs) (hL : ∀ h, sat L h → sat (F :: L') h) (hp : post (retv vs) L') : G P (retB P fn g F post) g n (.code .ret :: K) σ L := fun a w hs hw => by
  refine wpIn_ret (Kq_ret ⟨hs.defers, retv vs, ?_, L', hp, hw.mono hL⟩)
  unfold results
  rw [hr]
  simp only [List.mapM_toArray, Sem.run_bind, Sem.run_map]
  have e := h.run hs.e hw.s
  generalize hm : List.mapM (m := Sem) _ rs = m
  have e' : m.run P w = .ok vs w := by rw [← hm]; exact e
  rw [e']
  simp only [Result.andThen_ok, Sem.run_pure]
  cases vs with
  | nil => rfl
  | cons v l => cases l <;> simp [retv]
end
end Go.Proofs.YtkoncepjfgnjlaaGreat
/- Rules by operation. No program stands in this text. -/
namespace Go.Proofs.YtkoncepjfgnjlaaGreat
open Go.RowKit
set_option linter.unusedSimpArgs false
set_option linter.unusedSectionVars false

/-! What is asked of types. -/
def oneB (P : Program) (T : TypeId) : Bool :=
  match P.underlying T, P.info? T with
  | some (.struct _), _ => false
  | some (.array _ _), _ => false
  | some _, some i => Nat.beq i.size 1
  | _, _ => false
def aggB (P : Program) (T : TypeId) (n : Nat) : Bool :=
  match P.underlying T, P.info? T with
  | some (.struct _), some i => Nat.beq i.size n
  | some (.array _ _), some i => Nat.beq i.size n
  | _, _ => false
class OneT (P : Program) (T : TypeId) : Prop where
  h : oneB P T = true
class AggT (P : Program) (T : TypeId) (n : outParam Nat) : Prop where
  h : aggB P T n = true
/-- A type's zero value, cell by cell. -/
class ZeroT (P : Program) (T : TypeId) (z : outParam (List Value)) : Prop where
  h : ((P.info? T).bind (·.zero)).map (·.cells.toList) = some z
def fieldsOf (P : Program) (T : TypeId) : Option (List (Nat × Nat)) :=
  match P.underlying T with
  | some (.struct fs) => fs.toList.mapM fun f => (P.info? f.type).map fun i => (f.offset, i.size)
  | _ => none
class StructT (P : Program) (T : TypeId) (fs : outParam (List (Nat × Nat))) : Prop where
  h : fieldsOf P T = some fs
/-- A field: where it lies, how many cells it has, whether it is one of several parts. -/
def fieldOf (P : Program) (T : TypeId) (f : Nat) : Option (Nat × Nat × Bool) :=
  match P.underlying T with
  | some (.struct fs) => match fs[f]? with
    | some fd => if oneB P fd.type then some (fd.offset, 1, false) else (P.info? fd.type).bind fun i => if aggB P fd.type i.size then some (fd.offset, i.size, true) else none
    | none => none
  | _ => none
class FldT (P : Program) (T : TypeId) (f : Nat) (r : outParam (Nat × Nat × Bool)) : Prop where
  h : fieldOf P T f = some r
def sliceOf (P : Program) (T : TypeId) : Option (TypeId × Nat × Nat) :=
  match P.underlying T with
  | some (.slice e) => (P.info? e).map fun i => (e, i.size, i.bytes)
  | _ => none
class SliceT (P : Program) (T : TypeId) (r : outParam (TypeId × Nat × Nat)) : Prop where
  h : sliceOf P T = some r
def arrOf (P : Program) (T : TypeId) : Option (Nat × TypeId × Nat) :=
  match P.underlying T with
  | some (.array n e) => (P.info? e).map fun i => (n, e, i.size)
  | _ => none
class ArrT (P : Program) (T : TypeId) (r : outParam (Nat × TypeId × Nat)) : Prop where
  h : arrOf P T = some r
def calB (P : Program) (f : FuncId) : Bool :=
  match P.funcs[f]? with
  | some fn => fn.body.isSome && !(fn.name == "runtime.NumGoroutine")
  | none => false
class CalT (P : Program) (f : FuncId) : Prop where
  h : calB P f = true

section
variable {P : Program}
theorem OneT.run {T : TypeId} (h : OneT P T) (w : World) : (isAgg T).run P w = .ok false w ∧ (sizeOf T).run P w = .ok 1 w := by
  have h := h.h
  unfold oneB at h
  cases hu : P.underlying T with
  | none => rw [hu] at h; cases h
  | some d =>
    cases hi : P.info? T with
    | none => rw [hu, hi] at h; cases d <;> cases h
    | some i =>
      rw [hu, hi] at h
      have e2 : (sizeOf T).run P w = .ok i.size w := by simp [sizeOf, typeInfo, hi]
      cases d <;> first | (cases h; done) | exact ⟨by simp [isAgg, run_underlying hu], by rw [e2, Nat.eq_of_beq_eq_true h]⟩
theorem AggT.run {T : TypeId} {n : Nat} (h : AggT P T n) (w : World) : (isAgg T).run P w = .ok true w ∧ (sizeOf T).run P w = .ok n w := by
  have h := h.h
  unfold aggB at h
  cases hu : P.underlying T with
  | none => rw [hu] at h; cases h
  | some d =>
    cases hi : P.info? T with
    | none => rw [hu, hi] at h; cases d <;> cases h
    | some i =>
      rw [hu, hi] at h
      have e2 : (sizeOf T).run P w = .ok i.size w := by simp [sizeOf, typeInfo, hi]
      cases d <;> first | (cases h; done) | exact ⟨by simp [isAgg, run_underlying hu], by rw [e2, Nat.eq_of_beq_eq_true h]⟩
theorem ZeroT.run {T : TypeId} {z : List Value} (h : ZeroT P T z) (w : World) : ∃ v, (zeroValue T).run P w = .ok v w ∧ v.cells = z.toArray := by
  have h := h.h
  cases hi : P.info? T with
  | none => rw [hi] at h; cases h
  | some i =>
    cases hz : i.zero with
    | none => rw [hi] at h; simp [hz] at h
    | some v => rw [hi] at h; simp [hz] at h; exact ⟨v, by simp [zeroValue, typeInfo, hi, hz], by rw [← h]⟩
theorem SliceT.spec {T e : TypeId} {s b : Nat} (h : SliceT P T (e, s, b)) : P.underlying T = some (.slice e) ∧ ∃ i, P.info? e = some i ∧ i.size = s ∧ i.bytes = b := by
  have h := h.h
  unfold sliceOf at h
  cases hu : P.underlying T with
  | none => rw [hu] at h; cases h
  | some d =>
    rw [hu] at h
    cases d <;> first | (cases h; done) | skip
    rename_i e'
    cases hi : P.info? e' with
    | none => simp [hi] at h
    | some i => simp [hi] at h; obtain ⟨rfl, h2, h3⟩ := h; exact ⟨rfl, i, hi, h2, h3⟩
theorem ArrT.spec {T e : TypeId} {n s : Nat} (h : ArrT P T (n, e, s)) : P.underlying T = some (.array n e) ∧ ∃ i, P.info? e = some i ∧ i.size = s := by
  have h := h.h
  unfold arrOf at h
  cases hu : P.underlying T with
  | none => rw [hu] at h; cases h
  | some d =>
    rw [hu] at h
    cases d <;> first | (cases h; done) | skip
    rename_i n' e'
    cases hi : P.info? e' with
    | none => simp [hi] at h
    | some i => simp [hi] at h; obtain ⟨rfl, rfl, h3⟩ := h; exact ⟨rfl, i, hi, h3⟩
theorem CalT.run {f : FuncId} (h : CalT P f) (args : Array Value) (w : World) : (callFunc f args).run P w = .ok (.enter f args) w := by
  have h := h.h
  unfold calB at h
  cases hf : P.funcs[f]? with
  | none => rw [hf] at h; cases h
  | some fn =>
    rw [hf] at h
    simp only [Bool.and_eq_true, Bool.not_eq_true'] at h
    obtain ⟨h1, h2⟩ := h
    cases hb : fn.body with
    | none => rw [hb] at h1; cases h1
    | some c => simp [callFunc, hf, by simpa using h2, hb]
end

/-! Quiet ones. -/
section
variable {P : Program} {L : List HP} {σ : Env} {d : Option Nat} {ty T T' : TypeId} {pos : String} {aft : Array Edge} {gd : Option (Nat × Bool)} {x y z : Operand} {v u : Value}
theorem ev_move (h : ev σ x = some v) : Ev P L σ ⟨d, .move x, ty, pos, aft, gd⟩ v := fun a w hs _ => by
  show Result.ok (Next.value (a.eval x)) w = _
  rw [hs.eval h]
theorem ev_assign (h : ev σ x = some v) : Ev P L σ ⟨d, .assign x, ty, pos, aft, gd⟩ v := fun a w hs _ => by
  show Result.ok (Next.value (a.eval x)) w = _
  rw [hs.eval h]
theorem bin_run (op : BinOp) (k : IntKind) (p q : Int) (r : Value) (hx : ev σ x = some (.int k p)) (hy : ev σ y = some (.int k q)) (hr : ∀ w, (binOp op T (.int k p) (.int k q)).run P w = .ok r w) :
    Ev P L σ ⟨d, .binOp op T x y T', ty, pos, aft, gd⟩ r := fun a w hs _ => by
  simp only [execOp, hs.eval hx, hs.eval hy]
  have e : (eqGuard op T x y (.int k p) (.int k q)).run P w = .ok () w := by
    unfold eqGuard
    split <;> rfl
  simp only [Sem.run_bind, e, Result.andThen_ok, hr, Sem.run_pure]
theorem ev_add {p q : Int} (hx : ev σ x = some (.int .i64 p)) (hy : ev σ y = some (.int .i64 q)) (hr : -9223372036854775808 ≤ p + q ∧ p + q ≤ 9223372036854775807) : Ev P L σ ⟨d, .binOp .add T x y T', ty, pos, aft, gd⟩ (.int .i64 (p + q)) :=
  bin_run _ _ p q _ hx hy fun w => by simp [binOp, Op.intArith, IntWalk.i64_in _ hr]
theorem ev_sub {p q : Int} (hx : ev σ x = some (.int .i64 p)) (hy : ev σ y = some (.int .i64 q)) (hr : -9223372036854775808 ≤ p - q ∧ p - q ≤ 9223372036854775807) : Ev P L σ ⟨d, .binOp .sub T x y T', ty, pos, aft, gd⟩ (.int .i64 (p - q)) :=
  bin_run _ _ p q _ hx hy fun w => by simp [binOp, Op.intArith, IntWalk.i64_in _ hr]
theorem ev_addN {p q : Nat} (hx : ev σ x = some (.int .i64 (p : Int))) (hy : ev σ y = some (.int .i64 (q : Int))) (hr : p + q ≤ 9223372036854775807) : Ev P L σ ⟨d, .binOp .add T x y T', ty, pos, aft, gd⟩ (.int .i64 ((p + q : Nat) : Int)) := by
  rw [Int.natCast_add]; exact ev_add hx hy (by omega)
theorem ev_subN {p q : Nat} (hx : ev σ x = some (.int .i64 (p : Int))) (hy : ev σ y = some (.int .i64 (q : Int))) (hr : q ≤ p ∧ p ≤ 9223372036854775807) : Ev P L σ ⟨d, .binOp .sub T x y T', ty, pos, aft, gd⟩ (.int .i64 ((p - q : Nat) : Int)) := by
  rw [Int.natCast_sub hr.1]; exact ev_sub hx hy (by omega)
/-- Parts of a number that is not below 0. -/
theorem ev_quo {p q : Int} (hx : ev σ x = some (.int .i64 p)) (hy : ev σ y = some (.int .i64 q)) (hp : 0 ≤ p) (hq : 0 < q) (hm : p ≤ 9223372036854775807) : Ev P L σ ⟨d, .binOp .quo T x y T', ty, pos, aft, gd⟩ (.int .i64 (p / q)) :=
  bin_run _ _ p q _ hx hy fun w => by
    have h1 : p.tdiv q = p / q := Int.tdiv_eq_ediv_of_nonneg hp
    have h2 : 0 ≤ p / q := Int.ediv_nonneg hp (Int.le_of_lt hq)
    have h3 : p / q ≤ p := Int.ediv_le_self q hp
    simp [binOp, Op.intDiv, show q ≠ 0 by omega, h1, IntWalk.i64_in (p / q) (by omega)]
theorem ev_quoN {p q : Nat} (hx : ev σ x = some (.int .i64 (p : Int))) (hy : ev σ y = some (.int .i64 (q : Int))) (hq : 0 < q) (hm : p ≤ 9223372036854775807) : Ev P L σ ⟨d, .binOp .quo T x y T', ty, pos, aft, gd⟩ (.int .i64 ((p / q : Nat) : Int)) := by
  rw [Int.natCast_ediv]; exact ev_quo hx hy (by omega) (by omega) (by omega)
theorem ev_rem {p q : Int} (hx : ev σ x = some (.int .i64 p)) (hy : ev σ y = some (.int .i64 q)) (hp : 0 ≤ p) (hq : 0 < q) : Ev P L σ ⟨d, .binOp .rem T x y T', ty, pos, aft, gd⟩ (.int .i64 (p % q)) :=
  bin_run _ _ p q _ hx hy fun w => by
    simp [binOp, Op.intDiv, show q ≠ 0 by omega, Int.tmod_eq_emod_of_nonneg hp]
theorem ev_lssN {k : IntKind} {p q : Nat} (hx : ev σ x = some (.int k (p : Int))) (hy : ev σ y = some (.int k (q : Int))) : Ev P L σ ⟨d, .binOp .lss T x y T', ty, pos, aft, gd⟩ (.bool (decide (p < q))) :=
  bin_run _ _ p q _ hx hy fun w => by simp [binOp, Op.intCmp]
theorem ev_lss {k : IntKind} {p q : Int} (hx : ev σ x = some (.int k p)) (hy : ev σ y = some (.int k q)) : Ev P L σ ⟨d, .binOp .lss T x y T', ty, pos, aft, gd⟩ (.bool (decide (p < q))) :=
  bin_run _ _ p q _ hx hy fun w => by simp [binOp, Op.intCmp]
theorem ev_leq {k : IntKind} {p q : Int} (hx : ev σ x = some (.int k p)) (hy : ev σ y = some (.int k q)) : Ev P L σ ⟨d, .binOp .leq T x y T', ty, pos, aft, gd⟩ (.bool (decide (p ≤ q))) :=
  bin_run _ _ p q _ hx hy fun w => by simp [binOp, Op.intCmp]
theorem ev_gtr {k : IntKind} {p q : Int} (hx : ev σ x = some (.int k p)) (hy : ev σ y = some (.int k q)) : Ev P L σ ⟨d, .binOp .gtr T x y T', ty, pos, aft, gd⟩ (.bool (decide (q < p))) :=
  bin_run _ _ p q _ hx hy fun w => by simp [binOp, Op.intCmp]
theorem ev_geq {k : IntKind} {p q : Int} (hx : ev σ x = some (.int k p)) (hy : ev σ y = some (.int k q)) : Ev P L σ ⟨d, .binOp .geq T x y T', ty, pos, aft, gd⟩ (.bool (decide (q ≤ p))) :=
  bin_run _ _ p q _ hx hy fun w => by simp [binOp, Op.intCmp]
theorem ev_eql {k : IntKind} {p q : Int} (hx : ev σ x = some (.int k p)) (hy : ev σ y = some (.int k q)) : Ev P L σ ⟨d, .binOp .eql T x y T', ty, pos, aft, gd⟩ (.bool (decide (p = q))) :=
  bin_run _ _ p q _ hx hy fun w => by
    have : (p == q) = decide (p = q) := by by_cases h : p = q <;> simp [h]
    simp [binOp, Op.intCmp, this]
theorem ev_neq {k : IntKind} {p q : Int} (hx : ev σ x = some (.int k p)) (hy : ev σ y = some (.int k q)) : Ev P L σ ⟨d, .binOp .neq T x y T', ty, pos, aft, gd⟩ (.bool (decide (p ≠ q))) :=
  bin_run _ _ p q _ hx hy fun w => by
    have : (p != q) = decide (p ≠ q) := by by_cases h : p = q <;> simp [h]
    simp [binOp, Op.intCmp, this]
theorem bin_run' (op : BinOp) (u v r : Value) (hg : ∀ w, (eqGuard op T x y u v).run P w = .ok () w) (hx : ev σ x = some u) (hy : ev σ y = some v) (hr : ∀ w, (binOp op T u v).run P w = .ok r w) :
    Ev P L σ ⟨d, .binOp op T x y T', ty, pos, aft, gd⟩ r := fun a w hs _ => by
  simp only [execOp, hs.eval hx, hs.eval hy]
  simp only [Sem.run_bind, hg, Result.andThen_ok, hr, Sem.run_pure]
theorem eqGuard_ptr (op : BinOp) (p q : Option Addr) (w : World) : (eqGuard op T x y (.pointer p) (.pointer q)).run P w = .ok () w := by
  unfold eqGuard
  split <;> rfl
def ptrB (P : Program) (T : TypeId) : Bool := match P.underlying T with
  | some (.pointer _) => true
  | _ => false
class PtrT (P : Program) (T : TypeId) : Prop where
  h : ptrB P T = true
theorem PtrT.spec (H : PtrT P T) : ∃ e, P.underlying T = some (.pointer e) := by
  have h := H.h
  unfold ptrB at h
  split at h
  · exact ⟨_, by assumption⟩
  · cases h
theorem equal_nil (H : PtrT P T) (p : Option Addr) (w : World) : (Op.equal T (.pointer p) (.pointer none)).run P w = .ok p.isNone w := by
  obtain ⟨e, he⟩ := H.spec
  unfold Op.equal
  rw [show Op.maxDepth = 9999 + 1 from rfl]
  unfold Op.equalIn
  cases p <;> simp only [Sem.run_bind, run_underlying he, Result.andThen_ok] <;> rfl
theorem ev_eqlNil {p : Option Addr} [H : PtrT P T] (hx : ev σ x = some (.pointer p)) (hy : ev σ y = some (.pointer none)) : Ev P L σ ⟨d, .binOp .eql T x y T', ty, pos, aft, gd⟩ (.bool p.isNone) :=
  bin_run' _ _ _ _ (eqGuard_ptr _ _ _) hx hy fun w => by
    show ((do pure (.bool (← Op.equal T (.pointer p) (.pointer none))) : Sem Value)).run P w = _
    simp only [Sem.run_bind, equal_nil H, Result.andThen_ok, Sem.run_pure]
theorem ev_neqNil {p : Option Addr} [H : PtrT P T] (hx : ev σ x = some (.pointer p)) (hy : ev σ y = some (.pointer none)) : Ev P L σ ⟨d, .binOp .neq T x y T', ty, pos, aft, gd⟩ (.bool p.isSome) :=
  bin_run' _ _ _ _ (eqGuard_ptr _ _ _) hx hy fun w => by
    show ((do pure (.bool (!(← Op.equal T (.pointer p) (.pointer none)))) : Sem Value)).run P w = _
    simp only [Sem.run_bind, equal_nil H, Result.andThen_ok, Sem.run_pure]
    cases p <;> rfl
def boolB (P : Program) (T : TypeId) : Bool := match P.underlying T with
  | some .bool => true
  | _ => false
class BoolT (P : Program) (T : TypeId) : Prop where
  h : boolB P T = true
theorem BoolT.spec (H : BoolT P T) : P.underlying T = some .bool := by
  have h := H.h
  unfold boolB at h
  split at h
  · assumption
  · cases h
theorem ev_not {b : Bool} (hx : ev σ x = some (.bool b)) : Ev P L σ ⟨d, .unOp .not T x, ty, pos, aft, gd⟩ (.bool (!b)) := fun a w hs _ => by
  simp only [execOp, hs.eval hx]; rfl
theorem ev_notP {p : Prop} [Decidable p] (hx : ev σ x = some (.bool (decide p))) : Ev P L σ ⟨d, .unOp .not T x, ty, pos, aft, gd⟩ (.bool (decide (¬ p))) := fun a w hs _ => by
  simp only [execOp, hs.eval hx, decide_not]; rfl
theorem ev_pick {b : Bool} (hc : ev σ z = some (.bool b)) (h1 : b = true → ev σ x = some v) (h2 : b = false → ev σ y = some v) : Ev P L σ ⟨d, .pick z x y, ty, pos, aft, gd⟩ v := fun a w hs _ => by
  simp only [execOp, hs.eval hc]
  cases b with
  | true => show Result.ok (Next.value (a.eval x)) w = _; rw [hs.eval (h1 rfl)]
  | false => show Result.ok (Next.value (a.eval y)) w = _; rw [hs.eval (h2 rfl)]
theorem ev_pick_t {b : Bool} (hc : ev σ z = some (.bool b)) (hb : b = true) (h1 : ev σ x = some v) : Ev P L σ ⟨d, .pick z x y, ty, pos, aft, gd⟩ v := ev_pick hc (fun _ => h1) (fun e => by rw [hb] at e; cases e)
theorem ev_pick_f {b : Bool} (hc : ev σ z = some (.bool b)) (hb : b = false) (h1 : ev σ y = some v) : Ev P L σ ⟨d, .pick z x y, ty, pos, aft, gd⟩ v := ev_pick hc (fun e => by rw [hb] at e; cases e) (fun _ => h1)
theorem ev_nilCheck {p : Addr} (hx : ev σ x = some (.pointer (some p))) : Ev P L σ ⟨d, .nilCheck x, ty, pos, aft, gd⟩ (.pointer (some p)) := fun a w hs _ => by
  simp only [execOp, hs.eval hx]; rfl
theorem ev_nilCheckF {f : Fn} {l c : Array Value} (hf : ∀ n, f ≠ .method n) (hx : ev σ x = some (.func f l c)) : Ev P L σ ⟨d, .nilCheck x, ty, pos, aft, gd⟩ (.func f l c) := fun a w hs _ => by
  simp only [execOp, hs.eval hx]
  cases f <;> first | rfl | exact absurd rfl (hf _)
theorem ev_fieldAddr {f b o off n : Nat} {ag : Bool} [H : FldT P T f (off, n + 1, ag)] (hx : ev σ x = some (.pointer (some ⟨b, o, none⟩))) : Ev P L σ ⟨d, .fieldAddr T x f, ty, pos, aft, gd⟩ (.pointer (some ⟨b, o + off, none⟩)) := fun a w hs _ => by
  simp only [execOp, hs.eval hx]
  have h := H.h
  unfold fieldOf at h
  cases hu : P.underlying T with
  | none => rw [hu] at h; cases h
  | some dd =>
    rw [hu] at h
    cases dd <;> first | (cases h; done) | skip
    rename_i fs
    cases hf : fs[f]? with
    | none => simp [hf] at h
    | some fd =>
      simp only [hf] at h
      have key : (sizeOf fd.type).run P w = .ok (n + 1) w ∧ fd.offset = off := by
        by_cases h1 : oneB P fd.type = true
        · simp only [h1, if_true, Option.some.injEq, Prod.mk.injEq] at h
          exact ⟨by rw [(OneT.run ⟨h1⟩ w).2]; rw [← h.2.1], h.1⟩
        · simp only [h1] at h
          cases hi : P.info? fd.type with
          | none => simp [hi] at h
          | some i =>
            simp [hi] at h
            exact ⟨by simp [sizeOf, typeInfo, hi, h.2.2.1], h.2.1⟩
      simp [Instr.fieldAt, run_underlying hu, hf, Instr.sureAddr, fieldPlace, key.1, key.2, Addr.add_lit]
theorem ev_indexAddr {b o n c sz : Nat} {e : TypeId} {by_ : Nat} {k : IntKind} {i : Int} [H : SliceT P T (e, sz, by_)] (hx : ev σ x = some (.slice (some ⟨b, o, none⟩) n c)) (hy : ev σ y = some (.int k i)) (h0 : 0 ≤ i) (h1 : i < n) :
    Ev P L σ ⟨d, .indexAddr T x y, ty, pos, aft, gd⟩ (.pointer (some ⟨b, o + i.toNat * sz, none⟩)) := fun a w hs _ => by
  obtain ⟨hu, ii, hi, hsz, _⟩ := H.spec
  simp only [execOp, hs.eval hx, hs.eval hy]
  simp [Instr.indexAt, run_underlying hu, asIntOf, h0, h1, sizeOf, typeInfo, hi, hsz, Addr.add_lit]
theorem ev_indexAddrN {b o n c sz i : Nat} {e : TypeId} {by_ : Nat} {k : IntKind} [H : SliceT P T (e, sz, by_)] (hx : ev σ x = some (.slice (some ⟨b, o, none⟩) n c)) (hy : ev σ y = some (.int k (i : Int))) (h1 : i < n) :
    Ev P L σ ⟨d, .indexAddr T x y, ty, pos, aft, gd⟩ (.pointer (some ⟨b, o + i * sz, none⟩)) :=
  ev_indexAddr (H := H) hx hy (by omega) (by omega)
theorem ev_indexAddrA {b o n sz : Nat} {e : TypeId} {k : IntKind} {i : Int} [H : ArrT P T (n, e, sz)] (hx : ev σ x = some (.pointer (some ⟨b, o, none⟩))) (hy : ev σ y = some (.int k i)) (h0 : 0 ≤ i) (h1 : i < n) :
    Ev P L σ ⟨d, .indexAddr T x y, ty, pos, aft, gd⟩ (.pointer (some ⟨b, o + i.toNat * sz, none⟩)) := fun a w hs _ => by
  obtain ⟨hu, ii, hi, hsz⟩ := H.spec
  simp only [execOp, hs.eval hx, hs.eval hy]
  simp [Instr.indexAt, run_underlying hu, asIntOf, h0, h1, sizeOf, typeInfo, hi, hsz, Addr.add_lit, Instr.sureAddr]
theorem ev_load {p : Addr} [H : OneT P T] (hx : ev σ x = some (.pointer (some p))) (hl : Ld L p v) : Ev P L σ ⟨d, .load T x, ty, pos, aft, gd⟩ v := fun a w hs hw => by
  simp only [execOp, hs.eval hx]
  have hc : w.cell? p = some v := hl.1 _ hw
  simp [Instr.loadAt, Instr.sureAddr, loadVar, (H.run w).1, run_load, hc]
/-- Several cells, one behind the other. -/
structure LdN (L : List HP) (b o n : Nat) (vs : List Value) : Prop where
  len : vs.length = n
  get : ∀ (j : Nat) (v : Value), vs[j]? = some v → Ld L ⟨b, o + j, none⟩ v
def takeE : List Value → Nat → Option (List Value)
  | _, 0 => some []
  | [], _ + 1 => none
  | v :: l, n + 1 => match takeE l n with
    | some r => some (v :: r)
    | none => none
theorem takeE_get : ∀ {l : List Value} {n : Nat} {r : List Value}, takeE l n = some r → r.length = n ∧ ∀ (j : Nat) (v : Value), r[j]? = some v → l[j]? = some v
  | _, 0, r, h => by simp [takeE] at h; subst h; simp
  | [], _ + 1, _, h => by cases h
  | u :: l, n + 1, r, h => by
    simp only [takeE] at h
    cases ht : takeE l n with
    | none => rw [ht] at h; cases h
    | some r' =>
      rw [ht] at h
      simp at h
      subst h
      obtain ⟨h1, h2⟩ := takeE_get ht
      refine ⟨by simp [h1], fun j v hj => ?_⟩
      cases j with
      | zero => simpa using hj
      | succ j => simpa using h2 j v (by simpa using hj)
def dropE : List Value → Nat → List Value
  | l, 0 => l
  | [], _ + 1 => []
  | _ :: l, n + 1 => dropE l n
theorem dropE_eq : ∀ (l : List Value) (n : Nat), dropE l n = l.drop n
  | l, 0 => by simp [dropE]
  | [], n + 1 => by simp [dropE]
  | _ :: l, n + 1 => by simp [dropE, dropE_eq l n]
theorem LdN.blk {b o n : Nat} {cs vs : List Value} (h : takeE (dropE cs o) n = some vs) : LdN (blk b T cs :: L) b o n vs := ⟨(takeE_get h).1, fun j v hj => by
  have := (takeE_get h).2 j v hj
  rw [dropE_eq, List.getElem?_drop] at this
  exact Ld.blk this⟩
theorem LdN.skip {A : HP} {b o n : Nat} {vs : List Value} (h : LdN L b o n vs) : LdN (A :: L) b o n vs := ⟨h.1, fun j v hj => (h.2 j v hj).skip⟩
theorem loadCells_run {b o n : Nat} {vs : List Value} (h : LdN L b o n vs) {w : World} (hw : sat L w.hm) : (loadCells ⟨b, o, none⟩ n).run P w = .ok vs.toArray w := by
  rw [← h.1]
  exact run_loadCells_list w _ vs fun j v hj => by rw [Addr.add_lit]; exact (h.2 j v hj).1 _ hw
theorem ev_loadN {b o n : Nat} {vs : List Value} [H : AggT P T n] (hx : ev σ x = some (.pointer (some ⟨b, o, none⟩))) (hl : LdN L b o n vs) : Ev P L σ ⟨d, .load T x, ty, pos, aft, gd⟩ (.agg vs.toArray) := fun a w hs hw => by
  simp only [execOp, hs.eval hx]
  simp [Instr.loadAt, Instr.sureAddr, loadVar, (H.run w).1, (H.run w).2, loadCells_run hl hw]
theorem loadN_run {b o n : Nat} {vs : List Value} [H : AggT P T n] (hl : LdN L b o n vs) : ∀ w, sat L w.hm → (loadVar T ⟨b, o, none⟩).run P w = .ok (.agg vs.toArray) w := fun w hw => by
  simp [loadVar, (H.run w).1, (H.run w).2, loadCells_run hl hw]
theorem load_run {p : Addr} [H : OneT P T] (hl : Ld L p v) : ∀ w, sat L w.hm → (loadVar T p).run P w = .ok v w := fun w hw => by
  have hc : w.cell? p = some v := hl.1 _ hw
  simp [loadVar, (H.run w).1, run_load, hc]
theorem ev_len {p : Option Addr} {n c : Nat} {r : TypeId × Nat × Nat} [H : SliceT P T r] (hx : ev σ x = some (.slice p n c)) : Ev P L σ ⟨d, .call ⟨.builtin .len, #[x], #[T]⟩, ty, pos, aft, gd⟩ (.int .i64 n) := fun a w hs _ => by
  obtain ⟨e, s, b⟩ := r
  obtain ⟨hu, _⟩ := H.spec
  simp only [execOp, resolve, List.map_toArray, List.map_cons, List.map_nil, hs.eval hx]
  simp [invoke, builtin, Builtin.len_, run_underlying hu, goInt]
theorem ev_min {p q : Int} {ts : Array TypeId} (hx : ev σ x = some (.int .i64 p)) (hy : ev σ y = some (.int .i64 q)) : Ev P L σ ⟨d, .call ⟨.builtin .min, #[x, y], ts⟩, ty, pos, aft, gd⟩ (.int .i64 (min p q)) := fun a w hs _ => by
  simp only [execOp, resolve, List.map_toArray, List.map_cons, List.map_nil, hs.eval hx, hs.eval hy]
  have : (if q < p then q else p) = min p q := by omega
  simp [invoke, builtin, Builtin.min_, Builtin.min2, this]
theorem ev_max {p q : Int} {ts : Array TypeId} (hx : ev σ x = some (.int .i64 p)) (hy : ev σ y = some (.int .i64 q)) : Ev P L σ ⟨d, .call ⟨.builtin .max, #[x, y], ts⟩, ty, pos, aft, gd⟩ (.int .i64 (max p q)) := fun a w hs _ => by
  simp only [execOp, resolve, List.map_toArray, List.map_cons, List.map_nil, hs.eval hx, hs.eval hy]
  have : (if q > p then q else p) = max p q := by omega
  simp [invoke, builtin, Builtin.max_, Builtin.max2, this]
theorem ev_extract {i : Nat} {vs : List Value} (hx : ev σ x = some (.tuple vs.toArray)) (hv : vs[i]? = some v) : Ev P L σ ⟨d, .extract x i, ty, pos, aft, gd⟩ v := fun a w hs _ => by
  simp only [execOp, hs.eval hx]
  simp [Instr.extract, hv]
/-- Every operand, in order. -/
def evs (σ : Env) : List Operand → Option (List Value)
  | [] => some []
  | x :: l => match ev σ x, evs σ l with
    | some v, some vs => some (v :: vs)
    | _, _ => none
theorem evs_map {a : Act} (hs : SatE σ a) : ∀ {l : List Operand} {vs : List Value}, evs σ l = some vs → l.map a.eval = vs
  | [], _, h => Option.some.inj h
  | x :: l, vs, h => by
    simp only [evs] at h
    cases hx : ev σ x with
    | none => rw [hx] at h; cases h
    | some v =>
      cases hl : evs σ l with
      | none => rw [hx, hl] at h; cases h
      | some r =>
        rw [hx, hl] at h
        simp at h
        rw [List.map_cons, hs.eval hx, evs_map hs hl]; exact h
theorem ev_makeFunc {f : Fn} {l1 l2 : List Operand} {v1 v2 : List Value} (h1 : evs σ l1 = some v1) (h2 : evs σ l2 = some v2) : Ev P L σ ⟨d, .makeFunc f l1.toArray l2.toArray, ty, pos, aft, gd⟩ (.func f v1.toArray v2.toArray) := fun a w hs _ => by
  simp only [execOp, List.map_toArray, evs_map hs h1, evs_map hs h2]; rfl
/-! Reslicing. -/
theorem sliceBounds_run {lo hi : Option Value} {len cap l h : Nat} (hl : lo = none ∧ l = 0 ∨ ∃ k, lo = some (.int k l)) (hh : hi = none ∧ h = len ∨ ∃ k, hi = some (.int k h)) (h1 : l ≤ h) (h2 : h ≤ cap) (w : World) :
    (Instr.sliceBounds true len cap lo hi none).run P w = .ok (l, h, cap) w := by
  have sb : ∀ (k : IntKind) (i y : Nat) (code : BoundsCode), i ≤ y → (Instr.sliceBound (.int k i) y code).run P w = .ok i w := fun k i y code hi => by
    rw [run_sliceBound (P := P) w k i y code (by omega) (by omega)]; simp
  rcases hl with ⟨rfl, rfl⟩ | ⟨k, rfl⟩ <;> rcases hh with ⟨rfl, rfl⟩ | ⟨k', rfl⟩ <;> simp [Instr.sliceBounds, sb, h1, h2]
theorem ev_slice {e : TypeId} {sz by_ : Nat} {p : Option Addr} {n c : Nat} {l h : Nat} {lo hi : Option Operand} [H : SliceT P T (e, sz, by_)] (hx : ev σ x = some (.slice p n c))
    (hl : lo = none ∧ l = 0 ∨ ∃ y k, lo = some y ∧ ev σ y = some (.int k l)) (hh : hi = none ∧ h = n ∨ ∃ y k, hi = some y ∧ ev σ y = some (.int k h)) (h1 : l ≤ h) (h2 : h ≤ c) :
    Ev P L σ ⟨d, .slice T x lo hi none, ty, pos, aft, gd⟩ (.slice (if c = l then p else p.map (·.add (l * sz))) (h - l) (c - l)) := fun a w hs _ => by
  obtain ⟨hu, ii, hi', hsz, _⟩ := H.spec
  have e1 : lo.map a.eval = none ∧ l = 0 ∨ ∃ k, lo.map a.eval = some (.int k l) := by
    rcases hl with ⟨rfl, rfl⟩ | ⟨y, k, rfl, e⟩
    · exact .inl ⟨rfl, rfl⟩
    · exact .inr ⟨k, by simp [hs.eval e]⟩
  have e2 : hi.map a.eval = none ∧ h = n ∨ ∃ k, hi.map a.eval = some (.int k h) := by
    rcases hh with ⟨rfl, rfl⟩ | ⟨y, k, rfl, e⟩
    · exact .inl ⟨rfl, rfl⟩
    · exact .inr ⟨k, by simp [hs.eval e]⟩
  simp only [execOp, hs.eval hx]
  have e3 := sliceBounds_run (P := P) e1 e2 h1 h2 w
  have e4 : (sizeOf e).run P w = .ok sz w := by simp [sizeOf, typeInfo, hi', hsz]
  simp only [Instr.sliceAt, Instr.slice, Sem.run_bind, run_underlying hu, Result.andThen_ok, e3, e4, Option.map_none]
  rfl
/-- [:h] -/
theorem ev_sliceH {e : TypeId} {sz by_ : Nat} {p : Option Addr} {n c : Nat} {h : Nat} {k : IntKind} [H : SliceT P T (e, sz, by_)] (hx : ev σ x = some (.slice p n c)) (hy : ev σ y = some (.int k h)) (h2 : h ≤ c) :
    Ev P L σ ⟨d, .slice T x none (some y) none, ty, pos, aft, gd⟩ (.slice p h c) := fun a w hs hw => by
  have := ev_slice (P := P) (T := T) (H := H) (L := L) (d := d) (ty := ty) (pos := pos) (aft := aft) (gd := gd) (l := 0) (h := h) hx (.inl ⟨rfl, rfl⟩) (.inr ⟨y, k, rfl, hy⟩) (Nat.zero_le _) h2 a w hs hw
  rw [this]
  have e : (if c = 0 then p else p.map (·.add (0 * sz))) = p := by
    split
    · rfl
    · rw [Nat.zero_mul]; cases p <;> simp [Addr.add]
  rw [e, Nat.sub_zero, Nat.sub_zero]
theorem ev_sliceL {e : TypeId} {sz by_ : Nat} {b o : Nat} {n c : Nat} {l : Nat} {k : IntKind} [H : SliceT P T (e, sz, by_)] (hx : ev σ x = some (.slice (some ⟨b, o, none⟩) n c)) (hy : ev σ y = some (.int k l)) (h1 : l ≤ n) (h2 : n ≤ c) :
    Ev P L σ ⟨d, .slice T x (some y) none none, ty, pos, aft, gd⟩ (.slice (some ⟨b, (if c = l then o else o + l * sz), none⟩) (n - l) (c - l)) := fun a w hs hw => by
  have := ev_slice (P := P) (T := T) (H := H) (L := L) (d := d) (ty := ty) (pos := pos) (aft := aft) (gd := gd) (l := l) (h := n) hx (.inr ⟨y, k, rfl, hy⟩) (.inl ⟨rfl, rfl⟩) h1 h2 a w hs hw
  rw [this]
  split <;> simp [Addr.add_lit]
theorem ev_sliceLH {e : TypeId} {sz by_ : Nat} {b o : Nat} {n c : Nat} {l h : Nat} {z : Operand} {k k' : IntKind} [H : SliceT P T (e, sz, by_)] (hx : ev σ x = some (.slice (some ⟨b, o, none⟩) n c)) (hy : ev σ y = some (.int k l)) (hz : ev σ z = some (.int k' h)) (h1 : l ≤ h) (h2 : h ≤ c) :
    Ev P L σ ⟨d, .slice T x (some y) (some z) none, ty, pos, aft, gd⟩ (.slice (some ⟨b, (if c = l then o else o + l * sz), none⟩) (h - l) (c - l)) := fun a w hs hw => by
  have := ev_slice (P := P) (T := T) (H := H) (L := L) (d := d) (ty := ty) (pos := pos) (aft := aft) (gd := gd) (l := l) (h := h) hx (.inr ⟨y, k, rfl, hy⟩) (.inr ⟨z, k', rfl, hz⟩) h1 h2 a w hs hw
  rw [this]
  split <;> simp [Addr.add_lit]

/-! Aggregates. -/
def setN : List Value → Nat → List Value → List Value
  | [], _, _ => []
  | c :: cs, _, [] => c :: cs
  | _ :: cs, 0, v :: vs => v :: setN cs 0 vs
  | c :: cs, i + 1, v :: vs => c :: setN cs i (v :: vs)
theorem setN_nil (cs : List Value) (i : Nat) : setN cs i [] = cs := by cases cs <;> rfl
theorem setN_past (c : Value) (vs : List Value) : ∀ (cs : List Value) (i : Nat), setN (c :: cs) (i + 1) vs = c :: setN cs i vs := by
  intro cs i
  cases vs with
  | nil => rw [setN_nil, setN_nil]
  | cons v vs => rfl
theorem setN_cons : ∀ (cs : List Value) (i : Nat) (v : Value) (vs : List Value), setN cs i (v :: vs) = setN (cs.set i v) (i + 1) vs
  | [], _, _, vs => by cases vs <;> rfl
  | c :: cs, 0, v, vs => (setN_past v vs cs 0).symm
  | c :: cs, i + 1, v, vs => by
    rw [List.set_cons_succ, setN_past, setN_past, setN_cons cs i v vs]
def cellsL : Value → List Value
  | .agg cs => cs.toList
  | v => [v]
theorem cellsL_eq (v : Value) : v.cells = (cellsL v).toArray := by cases v <;> simp [Value.cells, cellsL]
def fillL (pl : Nat → Option (Nat × Nat)) : List Value → List (Nat × Value) → Option (List Value)
  | cs, [] => some cs
  | cs, (i, v) :: r => match pl i with
    | none => none
    | some (off, sz) => bif Nat.beq (cellsL v).length sz && Nat.ble (off + (cellsL v).length) cs.length then fillL pl (setN cs off (cellsL v)) r else none
theorem foldl_setN (vs : List Value) : ∀ (k off : Nat) (cs : List Value), (vs.zipIdx k).foldl (fun (c : Array Value) (p : Value × Nat) => c.setIfInBounds (off + p.2) p.1) cs.toArray = (setN cs (off + k) vs).toArray := by
  induction vs with
  | nil => intro k off cs; rw [setN_nil]; rfl
  | cons v vs ih =>
    intro k off cs
    simp only [List.zipIdx_cons, List.foldl_cons, setN_cons, List.setIfInBounds_toArray]
    exact ih (k + 1) off _
theorem fillL_eq {pl : Nat → Option (Nat × Nat)} : ∀ {parts : List (Nat × Value)} {cs r : List Value}, fillL pl cs parts = some r → Instr.fill pl cs.toArray parts = some r.toArray
  | [], cs, r, h => by simp [fillL] at h; subst h; rfl
  | (i, v) :: ps, cs, r, h => by
    simp only [fillL] at h
    unfold Instr.fill
    cases hp : pl i with
    | none => rw [hp] at h; cases h
    | some q =>
      obtain ⟨off, sz⟩ := q
      rw [hp] at h
      simp only at h
      cases hb : (Nat.beq (cellsL v).length sz && Nat.ble (off + (cellsL v).length) cs.length) with
      | false => rw [hb] at h; cases h
      | true =>
        rw [hb] at h
        simp only [Bool.and_eq_true] at hb
        have h1 := Nat.eq_of_beq_eq_true hb.1
        have h2 := Nat.le_of_ble_eq_true hb.2
        simp only [cellsL_eq, List.size_toArray, h1]
        rw [if_neg (by simp; omega)]
        have h3 := fillL_eq (by simpa using h : fillL pl (setN cs off (cellsL v)) ps = some r)
        rw [← h3]
        congr 1
        rw [← Array.foldl_toList]
        have h4 := foldl_setN (cellsL v) 0 off cs
        rw [Nat.add_zero] at h4
        rw [← h4]
        simp
def evParts (σ : Env) : List (Nat × Operand) → Option (List (Nat × Value))
  | [] => some []
  | (i, x) :: l => match ev σ x, evParts σ l with
    | some v, some vs => some ((i, v) :: vs)
    | _, _ => none
theorem evParts_map {a : Act} (hs : SatE σ a) : ∀ {l : List (Nat × Operand)} {vs : List (Nat × Value)}, evParts σ l = some vs → l.map (fun p => (p.1, a.eval p.2)) = vs
  | [], _, h => Option.some.inj h
  | (i, x) :: l, vs, h => by
    simp only [evParts] at h
    cases hx : ev σ x with
    | none => rw [hx] at h; cases h
    | some v =>
      cases hl : evParts σ l with
      | none => rw [hx, hl] at h; cases h
      | some r =>
        rw [hx, hl] at h
        simp at h
        rw [List.map_cons, hs.eval hx, evParts_map hs hl]; exact h
theorem ev_build {fs : List (Nat × Nat)} {z cs : List Value} {ps : List (Nat × Operand)} {pv : List (Nat × Value)} [H : StructT P T fs] [HZ : ZeroT P T z] (hp : evParts σ ps = some pv) (hf : fillL (fs[·]?) z pv = some cs) :
    Ev P L σ ⟨d, .build T ps.toArray, ty, pos, aft, gd⟩ (.agg cs.toArray) := fun a w hs _ => by
  have e1 : (ps.toArray.map fun (i, x) => (i, a.eval x)) = pv.toArray := by rw [List.map_toArray]; congr 1; exact evParts_map hs hp
  simp only [execOp, e1]
  have hb : P.built T pv = some cs.toArray := by
    have h := H.h
    have hz := HZ.h
    unfold fieldsOf at h
    cases hu : P.underlying T with
    | none => rw [hu] at h; cases h
    | some dd =>
      rw [hu] at h
      cases dd <;> first | (cases h; done) | skip
      rename_i fds
      cases hi : P.info? T with
      | none => rw [hi] at hz; cases hz
      | some i =>
        cases hiz : i.zero with
        | none => rw [hi] at hz; simp [hiz] at hz
        | some v0 =>
          rw [hi] at hz
          simp [hiz] at hz
          simp only [Program.built, hi, hu, hiz, h]
          have e2 : v0.cells = z.toArray := by rw [← hz]
          rw [e2]
          have := fillL_eq hf
          simpa using this
  have := run_build (P := P) w T pv.toArray cs.toArray hb
  simp only [Sem.run_bind, this, Result.andThen_ok, Sem.run_pure]
theorem ev_buildA {n sz : Nat} {e : TypeId} {z cs : List Value} {ps : List (Nat × Operand)} {pv : List (Nat × Value)} [H : ArrT P T (n, e, sz)] [HZ : ZeroT P T z] (hp : evParts σ ps = some pv) (hf : fillL (fun i => some (i * sz, sz)) z pv = some cs) :
    Ev P L σ ⟨d, .build T ps.toArray, ty, pos, aft, gd⟩ (.agg cs.toArray) := fun a w hs _ => by
  have e1 : (ps.toArray.map fun (i, x) => (i, a.eval x)) = pv.toArray := by rw [List.map_toArray]; congr 1; exact evParts_map hs hp
  simp only [execOp, e1]
  have hb : P.built T pv = some cs.toArray := by
    obtain ⟨hu, ie, hie, hs2⟩ := H.spec
    have hz := HZ.h
    cases hi : P.info? T with
    | none => rw [hi] at hz; cases hz
    | some i =>
      cases hiz : i.zero with
      | none => rw [hi] at hz; simp [hiz] at hz
      | some v0 =>
        rw [hi] at hz
        simp [hiz] at hz
        simp only [Program.built, hi, hu, hiz, hie, hs2]
        have e2 : v0.cells = z.toArray := by rw [← hz]
        rw [e2]
        exact fillL_eq hf
  have := run_build (P := P) w T pv.toArray cs.toArray hb
  simp only [Sem.run_bind, this, Result.andThen_ok, Sem.run_pure]
end

/-! Those that make or turn memory. -/
section
variable {P : Program} {g : Glob} {L : List HP} {σ : Env} {d : Option Nat} {ty T T' : TypeId} {pos : String} {aft : Array Edge} {gd : Option (Nat × Bool)} {x y z : Operand} {v u : Value}
theorem newRow_run (T : TypeId) (cs : List Value) (w : World) : (newRow T cs.toArray).run P w = .ok ⟨w.heap.size, 0, none⟩ (w.alloc (.cells cs.toArray T (0, 0))) := by
  simp [newRow]
theorem eff_box (hx : ev σ x = some v) : Eff P g L σ ⟨d, .box T x, ty, pos, aft, gd⟩ fun r L' => ∃ b, r = .pointer (some ⟨b, 0, none⟩) ∧ L' = blk b T (cellsL v) :: L := fun a w hs hw K Q hK => by
  unfold Oper.wp
  simp only [execOp, hs.eval hx, Instr.box, newVar, cellsL_eq, Sem.run_bind, newRow_run, Result.andThen_ok, Sem.run_pure]
  exact hK _ _ _ ⟨_, rfl, rfl⟩ (hw.alloc T _)
theorem eff_alloc {zs : List Value} [H : ZeroT P T zs] : Eff P g L σ ⟨d, .alloc T, ty, pos, aft, gd⟩ fun r L' => ∃ b, r = .pointer (some ⟨b, 0, none⟩) ∧ L' = blk b T zs :: L := fun a w hs hw K Q hK => by
  obtain ⟨v, e1, e2⟩ := H.run w
  unfold Oper.wp
  simp only [execOp, Instr.alloc, newVar, e2, Sem.run_bind, e1, newRow_run, Result.andThen_ok, Sem.run_pure]
  exact hK _ _ _ ⟨_, rfl, rfl⟩ (hw.alloc T _)
theorem eff_buildSlice {e : TypeId} {sz by_ n : Nat} {zs cs : List Value} {ps : List (Nat × Operand)} {pv : List (Nat × Value)} [H : SliceT P T (e, sz, by_)] [HZ : ZeroT P e zs] (hn : n = 0 ∧ cs = [] ∧ ps = [] ∨ n = 1 ∧ zs.length = sz ∧ 0 < sz ∧ sz ≤ 1000 ∧ evParts σ ps = some pv ∧ fillL (fun i => some (i * sz, sz)) zs pv = some cs) :
    Eff P g L σ ⟨d, .buildSlice T n ps.toArray, ty, pos, aft, gd⟩ fun r L' => ∃ b, r = .slice (some ⟨b, 0, none⟩) n n ∧ L' = blk b e cs :: L := fun a w hs hw K Q hK => by
  obtain ⟨hu, ie, hie, hs2, _⟩ := H.spec
  have e4 : (sizeOf e).run P w = .ok sz w := by simp [sizeOf, typeInfo, hie, hs2]
  unfold Oper.wp
  rcases hn with ⟨rfl, rfl, rfl⟩ | ⟨rfl, hz, h0, h1, hp, hf⟩
  · have e8 : ∀ (q : Array Value), (Array.range (0 * sz)).map (fun j => q[j % q.size]!) = [].toArray := fun q => by
      rw [Nat.zero_mul]; simp
    simp only [execOp, Instr.buildSlice, Sem.run_bind, run_underlying hu, Result.andThen_ok, e4]
    rw [if_neg (by omega)]
    simp only [Sem.run_bind, Sem.run_pure, Result.andThen_ok]
    rw [if_pos (by omega)]
    simp only [Sem.run_bind, Sem.run_pure, Result.andThen_ok, e8, Instr.fill, List.map_toArray, List.map_nil, newRow_run]
    exact hK _ _ _ ⟨_, rfl, rfl⟩ (hw.alloc e [])
  · have e1 : (ps.toArray.map fun (i, x) => (i, a.eval x)) = pv.toArray := by rw [List.map_toArray]; congr 1; exact evParts_map hs hp
    obtain ⟨v, e5, e6⟩ := HZ.run w
    have e7 : (Array.range (1 * sz)).map (fun j => zs.toArray[j % zs.toArray.size]!) = zs.toArray := by
      apply Array.ext
      · simp [hz]
      · intro i hi _
        simp at hi
        simp [hz, Nat.mod_eq_of_lt hi, List.getElem?_eq_getElem (show i < zs.length by omega)]
    simp only [execOp, Instr.buildSlice, Sem.run_bind, run_underlying hu, Result.andThen_ok, e4, e1]
    rw [if_neg (by omega)]
    simp only [Sem.run_bind, Sem.run_pure, Result.andThen_ok]
    rw [if_neg (by omega)]
    simp only [Sem.run_bind, e5, Result.andThen_ok, Sem.run_pure, e6, e7, fillL_eq hf, newRow_run]
    exact hK _ _ _ ⟨_, rfl, rfl⟩ (hw.alloc e _)
theorem eff_buildSlice1 {e : TypeId} {sz by_ : Nat} {zs cs : List Value} {ps : List (Nat × Operand)} {pv : List (Nat × Value)} [H : SliceT P T (e, sz, by_)] [HZ : ZeroT P e zs] (hz : (Nat.beq zs.length sz && Nat.ble 1 sz && Nat.ble sz 1000) = true) (hp : evParts σ ps = some pv) (hf : fillL (fun i => some (i * sz, sz)) zs pv = some cs) :
    Eff P g L σ ⟨d, .buildSlice T 1 ps.toArray, ty, pos, aft, gd⟩ fun r L' => ∃ b, r = .slice (some ⟨b, 0, none⟩) 1 1 ∧ L' = blk b e cs :: L := by
  simp only [Bool.and_eq_true] at hz
  exact eff_buildSlice (.inr ⟨rfl, Nat.eq_of_beq_eq_true hz.1.1, Nat.le_of_ble_eq_true hz.1.2, Nat.le_of_ble_eq_true hz.2, hp, hf⟩)
/-- Cells of a block of the list are turned. -/
inductive Upd (b : Nat) (i : Nat) (vs : List Value) : List HP → List HP → Prop where
  | here {T : TypeId} {cs : List Value} {L : List HP} (h : Nat.ble (i + vs.length) cs.length = true) : Upd b i vs (blk b T cs :: L) (blk b T (setN cs i vs) :: L)
  | skip {A : HP} {L L' : List HP} (h : Upd b i vs L L') : Upd b i vs (A :: L) (A :: L')
theorem setN_length : ∀ (vs : List Value) (cs : List Value) (i : Nat), (setN cs i vs).length = cs.length
  | [], cs, i => by rw [setN_nil]
  | v :: vs, cs, i => by simp [setN_cons, setN_length vs]
theorem Upd.front {b i : Nat} {vs : List Value} {L L' : List HP} (h : Upd b i vs L L') : ∃ T cs M, i + vs.length ≤ cs.length ∧ L.Perm (blk b T cs :: M) ∧ L'.Perm (blk b T (setN cs i vs) :: M) := by
  induction h with
  | here h => exact ⟨_, _, _, Nat.le_of_ble_eq_true h, .refl _, .refl _⟩
  | skip _ ih =>
    obtain ⟨T, cs, M, h, p, q⟩ := ih
    exact ⟨T, cs, _ :: M, h, (p.cons _).trans (.swap _ _ _), (q.cons _).trans (.swap _ _ _)⟩
def oneC : Value → Bool
  | .agg _ => false
  | .tuple _ => false
  | _ => true
theorem store_run {w : World} {p : Addr} {v c : Value} (hv : oneC v = true) (hc : w.cell? p = some c) (hf : w.frozen? p = false) : (store p v).run P w = .ok () (w.setCell p v) := by
  cases v <;> first | (cases hv; done) | simp [store, Sem.run, hc, hf]
theorem storeCells_run {g : Glob} {b : Nat} {T : TypeId} {M : List HP} : ∀ (vs : List Value) (o i : Nat) (cs : List Value) (w : World), (∀ v ∈ vs, oneC v = true) → o + i + vs.length ≤ cs.length → Hp g (blk b T cs :: M) w →
    ∃ w', (storeCells ⟨b, o, none⟩ vs i).run P w = .ok () w' ∧ Hp g (blk b T (setN cs (o + i) vs) :: M) w'
  | [], o, i, cs, w, _, _, hw => ⟨w, by simp [storeCells], by rw [setN_nil]; exact hw⟩
  | v :: vs, o, i, cs, w, h1, hl, hw => by
    simp only [List.length_cons] at hl
    have hc : w.cell? ⟨b, o + i, none⟩ = some cs[o + i] := hw.cell (Ld.blk (by rw [List.getElem?_eq_getElem (by omega)]))
    have e1 := store_run (P := P) (h1 v (by simp)) hc hw.blk_frozen
    obtain ⟨w', e2, h2⟩ := storeCells_run vs o (i + 1) (cs.set (o + i) v) (w.setCell ⟨b, o + i, none⟩ v) (fun u hu => h1 u (by simp [hu])) (by simp; omega) (hw.store v)
    exact ⟨w', by simp only [storeCells, Sem.run_bind, Addr.add_lit, e1, Result.andThen_ok, e2], by rw [setN_cons]; exact h2⟩
def allOne : List Value → Bool
  | [] => true
  | v :: l => oneC v && allOne l
theorem allOne_mem : ∀ {l : List Value}, allOne l = true → ∀ v ∈ l, oneC v = true
  | [], _, v, hv => by cases hv
  | u :: l, h, v, hv => by
    simp only [allOne, Bool.and_eq_true] at h
    rcases List.mem_cons.1 hv with rfl | hv
    · exact h.1
    · exact allOne_mem h.2 v hv
theorem eff_store {b o : Nat} {L' : List HP} [H : OneT P T] (hx : ev σ x = some (.pointer (some ⟨b, o, none⟩))) (hy : ev σ y = some v) (hv : oneC v = true) (hu : Upd b o [v] L L') :
    Eff P g L σ ⟨d, .store T x y, ty, pos, aft, gd⟩ fun r M => r = undef ∧ M = L' := fun a w hs hw K Q hK => by
  obtain ⟨B, cs, M, hl, p, q⟩ := hu.front
  have hw' : Hp g (blk b B cs :: M) w := hw.mono fun _ => sat.perm p
  obtain ⟨w', e, h2⟩ := storeCells_run (P := P) [v] o 0 cs w (by simpa using hv) (by simpa using hl) hw'
  have hcl : v.cells = #[v] := by cases v <;> first | rfl | cases hv
  unfold Oper.wp
  simp only [execOp, hs.eval hx, hs.eval hy, Instr.storeAt, Instr.sureAddr, storeVar, Sem.run_bind, Sem.run_pure, Result.andThen_ok, (H.run w).2, hcl]
  rw [if_neg (by simp)]
  simp only [Sem.run_bind, Sem.run_pure, Result.andThen_ok, e]
  exact hK _ _ _ ⟨rfl, rfl⟩ (h2.mono fun _ => sat.perm q.symm)
theorem eff_storeN {b o n : Nat} {vs : List Value} {L' : List HP} [H : AggT P T n] (hx : ev σ x = some (.pointer (some ⟨b, o, none⟩))) (hy : ev σ y = some (.agg vs.toArray)) (hn : Nat.beq vs.length n = true) (hv : allOne vs = true) (hu : Upd b o vs L L') :
    Eff P g L σ ⟨d, .store T x y, ty, pos, aft, gd⟩ fun r M => r = undef ∧ M = L' := fun a w hs hw K Q hK => by
  obtain ⟨B, cs, M, hl, p, q⟩ := hu.front
  have hw' : Hp g (blk b B cs :: M) w := hw.mono fun _ => sat.perm p
  obtain ⟨w', e, h2⟩ := storeCells_run (P := P) vs o 0 cs w (allOne_mem hv) (by simpa using hl) hw'
  have en := Nat.eq_of_beq_eq_true hn
  unfold Oper.wp
  simp only [execOp, hs.eval hx, hs.eval hy, Instr.storeAt, Instr.sureAddr, storeVar, Sem.run_bind, Sem.run_pure, Result.andThen_ok, (H.run w).2, Value.cells]
  rw [if_neg (by simp [en])]
  simp only [Sem.run_bind, Sem.run_pure, Result.andThen_ok, e]
  exact hK _ _ _ ⟨rfl, rfl⟩ (h2.mono fun _ => sat.perm q.symm)
/-- A call of a function, by its contract. -/
theorem calls_of {f : FuncId} {args : Array Value} {post : Value → List HP → Prop} {w : World} (h : Ctr P f args L post) (hw : Hp g L w) : Calls P f args w fun e w' => ∃ v L', e = .returned v ∧ post v L' ∧ Hp g L' w' := by
  have h1 : Hp g ((fun _ => True) :: L) w := ⟨hw.g, fun _ => none, w.hm, fun _ => .inl rfl, fun _ _ e => (by cases e), hSub.refl _, trivial, hw.s⟩
  exact (h g _ w h1).mono fun e w' ⟨v, L', e1, p, q⟩ => ⟨v, L', e1, p, q.mono fun _ s => s.tail⟩
theorem eff_call {f : FuncId} {xs : List Operand} {ts : Array TypeId} {args : List Value} {post : Value → List HP → Prop} [H : CalT P f] (ha : evs σ xs = some args) (h : Ctr P f args.toArray L post) :
    Eff P g L σ ⟨d, .call ⟨.value (.func f), xs.toArray, ts⟩, ty, pos, aft, gd⟩ post := fun a w hs hw K Q hK => by
  unfold Oper.wp
  have e : (execOp a.eval ⟨d, .call ⟨.value (.func f), xs.toArray, ts⟩, ty, pos, aft, gd⟩).run P w = .ok (.enter f args.toArray) w := by
    show (callFunc f (#[] ++ xs.toArray.map a.eval ++ #[])).run P w = _
    rw [List.map_toArray, evs_map hs ha]
    simpa using H.run args.toArray w
  rw [e]
  refine (calls_of h hw).mono fun en w' hq => ?_
  obtain ⟨v, L', rfl, hp, hw'⟩ := hq
  exact hK _ _ _ hp hw'
theorem eff_callv {f : FuncId} {q : Operand} {c1 c2 : List Value} {xs : List Operand} {ts : Array TypeId} {args : List Value} {post : Value → List HP → Prop} [H : CalT P f] (hq : ev σ q = some (.func (.func f) c1.toArray c2.toArray)) (ha : evs σ xs = some args) (h : Ctr P f (c1 ++ args ++ c2).toArray L post) :
    Eff P g L σ ⟨d, .call ⟨.value q, xs.toArray, ts⟩, ty, pos, aft, gd⟩ post := fun a w hs hw K Q hK => by
  unfold Oper.wp
  have e : (execOp a.eval ⟨d, .call ⟨.value q, xs.toArray, ts⟩, ty, pos, aft, gd⟩).run P w = .ok (.enter f (c1 ++ args ++ c2).toArray) w := by
    simp only [execOp, resolve, hs.eval hq, Deferred.ofValue, Sem.run_bind, Sem.run_pure, Result.andThen_ok, invoke, List.map_toArray, evs_map hs ha]
    simpa using H.run (c1 ++ args ++ c2).toArray w
  rw [e]
  refine (calls_of h hw).mono fun en w' hq => ?_
  obtain ⟨v, L', rfl, hp, hw'⟩ := hq
  exact hK _ _ _ hp hw'
end
end Go.Proofs.YtkoncepjfgnjlaaGreat
/- Slices: what they read as, and those that a call has for itself. No program stands in this text. -/
namespace Go.Proofs.YtkoncepjfgnjlaaGreat
open Go.RowKit
set_option linter.unusedSimpArgs false
set_option linter.unusedSectionVars false
set_option linter.unusedVariables false

/-- What a slice reads as, cell by cell: nil and empty let in. -/
structure Rc (L : List HP) (sz : Nat) (A : Option Addr) (n : Nat) (xs : List Value) : Prop where
  len : xs.length = n * sz
  get : 0 < n → ∃ b o, A = some ⟨b, o, none⟩ ∧ ∀ (j : Nat) (v : Value), xs[j]? = some v → Ld L ⟨b, o + j, none⟩ v
theorem Rc.skip {X : HP} {L : List HP} {sz n : Nat} {A : Option Addr} {xs : List Value} (h : Rc L sz A n xs) : Rc (X :: L) sz A n xs :=
  ⟨h.1, fun hn => let ⟨b, o, e, f⟩ := h.2 hn; ⟨b, o, e, fun j v hj => (f j v hj).skip⟩⟩
theorem Rc.app {N L : List HP} {sz n : Nat} {A : Option Addr} {xs : List Value} (h : Rc L sz A n xs) : Rc (N ++ L) sz A n xs := by
  induction N with
  | nil => exact h
  | cons X N ih => exact ih.skip
theorem LdN.part {L : List HP} {b o n : Nat} {vs ws : List Value} (h : LdN L b o n vs) (m : Nat) (e : takeE vs m = some ws) : LdN L b o m ws :=
  ⟨(takeE_get e).1, fun j v hj => h.2 j v ((takeE_get e).2 j v hj)⟩
theorem LdN.at_ {L : List HP} {b o n i : Nat} {vs : List Value} {v : Value} (h : LdN L b o n vs) (hv : vs[i]? = some v) : Ld L ⟨b, o + i, none⟩ v := h.2 i v hv
/-- Elements, each of so many cells. -/
class Enc (α : Type) where
  sz : Nat
  enc : α → List Value
  len : ∀ a, (enc a).length = sz
  one : ∀ a, ∀ v ∈ enc a, v.oneCell' = true
def flat {α : Type} [Enc α] (l : List α) : List Value := l.flatMap Enc.enc
instance : Enc Int := ⟨1, fun n => [.int .i64 n], fun _ => rfl, fun _ v h => by simp at h; subst h; rfl⟩
section
variable {α : Type} [E : Enc α]
theorem flat_nil : flat ([] : List α) = [] := rfl
theorem flat_cons (a : α) (l : List α) : flat (a :: l) = Enc.enc a ++ flat l := by simp [flat]
theorem flat_append (l m : List α) : flat (l ++ m) = flat l ++ flat m := by simp [flat]
theorem flat_length : ∀ (l : List α), (flat l).length = l.length * E.sz
  | [] => by simp [flat]
  | a :: l => by rw [flat_cons, List.length_append, Enc.len, flat_length l, List.length_cons, Nat.add_mul]; omega
theorem flat_at : ∀ {l : List α} {k : Nat} {a : α}, l[k]? = some a → ∀ (j : Nat) (v : Value), (E.enc a)[j]? = some v → (flat l)[k * E.sz + j]? = some v
  | [], k, a, h, _, _, _ => by simp at h
  | b :: l, 0, a, h, j, v, hj => by
    simp at h; subst h
    have : j < (E.enc b).length := (List.getElem?_eq_some_iff.1 hj).1
    rw [flat_cons, Nat.zero_mul, Nat.zero_add, List.getElem?_append_left this]; exact hj
  | b :: l, k + 1, a, h, j, v, hj => by
    have ih := flat_at (l := l) (k := k) (a := a) (by simpa using h) j v hj
    rw [flat_cons, List.getElem?_append_right (by rw [Enc.len, Nat.add_mul]; omega), Enc.len]
    rw [show (k + 1) * E.sz + j - E.sz = k * E.sz + j by rw [Nat.add_mul]; omega]
    exact ih
theorem flat_one (l : List α) : ∀ v ∈ flat l, v.oneCell' = true := by
  intro v hv
  obtain ⟨a, _, ha⟩ := List.mem_flatMap.1 hv
  exact Enc.one a v ha
theorem flat_take (l : List α) (k : Nat) : flat (l.take k) = (flat l).take (k * E.sz) := by
  induction l generalizing k with
  | nil => simp [flat]
  | cons a l ih =>
    cases k with
    | zero => simp [flat]
    | succ k =>
      rw [List.take_succ_cons, flat_cons, flat_cons, ih]
      have h1 : E.sz ≤ (k + 1) * E.sz := by rw [Nat.add_mul]; omega
      rw [List.take_append, Enc.len, List.take_of_length_le (l := E.enc a) (by rw [Enc.len]; exact h1)]
      rw [show (k + 1) * E.sz - E.sz = k * E.sz by rw [Nat.add_mul]; omega]
theorem flat_drop (l : List α) (k : Nat) : flat (l.drop k) = (flat l).drop (k * E.sz) := by
  induction l generalizing k with
  | nil => simp [flat]
  | cons a l ih =>
    cases k with
    | zero => simp [flat]
    | succ k =>
      rw [List.drop_succ_cons, flat_cons, ih]
      have h1 : E.sz ≤ (k + 1) * E.sz := by rw [Nat.add_mul]; omega
      rw [List.drop_append, Enc.len, List.drop_of_length_le (l := E.enc a) (by rw [Enc.len]; exact h1), List.nil_append]
      rw [show (k + 1) * E.sz - E.sz = k * E.sz by rw [Nat.add_mul]; omega]
/-- What a slice reads as, element by element. -/
def Rd (L : List HP) (A : Option Addr) (n : Nat) (l : List α) : Prop := Rc L E.sz A n (flat l)
theorem Rd.len {L : List HP} {A : Option Addr} {n : Nat} {l : List α} (hsz : 0 < E.sz) (h : Rd L A n l) : l.length = n := by
  have := h.1
  rw [flat_length] at this
  exact Nat.eq_of_mul_eq_mul_right hsz this
theorem Rd.skip {X : HP} {L : List HP} {A : Option Addr} {n : Nat} {l : List α} (h : Rd L A n l) : Rd (X :: L) A n l := Rc.skip h
theorem Rd.app {N L : List HP} {A : Option Addr} {n : Nat} {l : List α} (h : Rd L A n l) : Rd (N ++ L) A n l := Rc.app h
/-- An element that is there. -/
theorem Rd.at_ {L : List HP} {A : Option Addr} {n : Nat} {l : List α} (h : Rd L A n l) (hn : 0 < n) : ∃ b o, A = some ⟨b, o, none⟩ ∧ ∀ k a, l[k]? = some a → LdN L b (o + k * E.sz) E.sz (E.enc a) := by
  obtain ⟨b, o, e, f⟩ := h.2 hn
  exact ⟨b, o, e, fun k a hk => ⟨Enc.len a, fun j v hj => by rw [Nat.add_assoc]; exact f _ _ (flat_at hk j v hj)⟩⟩
theorem Rd.nil (L : List HP) (A : Option Addr) : Rd L A 0 ([] : List α) := ⟨by simp [flat], fun h => absurd h (Nat.lt_irrefl 0)⟩
theorem Rd.take {L : List HP} {A : Option Addr} {n : Nat} {l : List α} (h : Rd L A n l) {k : Nat} (hk : k ≤ n) : Rd L A k (l.take k) := by
  refine ⟨by rw [flat_take, List.length_take, h.1]; exact Nat.min_eq_left (Nat.mul_le_mul_right _ hk), fun h0 => ?_⟩
  obtain ⟨b, o, e, f⟩ := h.2 (by omega)
  refine ⟨b, o, e, fun j v hj => f j v ?_⟩
  rw [flat_take, List.getElem?_take] at hj
  split at hj
  · exact hj
  · cases hj
/-- From k on; 'c' is the capacity that the whole has. -/
theorem Rd.drop {L : List HP} {b o n : Nat} {l : List α} (h : Rd L (some ⟨b, o, none⟩) n l) {k c : Nat} (hk : k ≤ n) (hc : n ≤ c) : Rd L (some ⟨b, (if c = k then o else o + k * E.sz), none⟩) (n - k) (l.drop k) := by
  refine ⟨by rw [flat_drop, List.length_drop, h.1, Nat.sub_mul], fun h0 => ?_⟩
  obtain ⟨b', o', e, f⟩ := h.2 (by omega)
  simp only [Option.some.injEq, Addr.mk.injEq, and_true] at e
  obtain ⟨rfl, rfl⟩ := e
  refine ⟨b, o + k * E.sz, by rw [if_neg (by omega)], fun j v hj => ?_⟩
  rw [flat_drop, List.getElem?_drop] at hj
  rw [Nat.add_assoc]
  exact f _ _ hj
end

/-- A slice that the call has for itself: its array, whole. -/
structure own (e : TypeId) (sz : Nat) (A : Option Addr) (n c : Nat) (xs : List Value) (h : Hm) : Prop where
  len : xs.length = n * sz
  le : n ≤ c
  cap : c ≤ maxLen
  arr : (A = none ∧ n = 0 ∧ c = 0) ∨ ∃ b cur, A = some ⟨b, 0, none⟩ ∧ h b = some (.cells cur e (0, 0)) ∧ cur.size = c * sz ∧ cur.toList.take (n * sz) = xs
theorem own.facts {e sz n c : Nat} {A : Option Addr} {xs : List Value} {L : List HP} {h : Hm} (s : sat (own e sz A n c xs :: L) h) : xs.length = n * sz ∧ n ≤ c ∧ c ≤ maxLen ∧ ((A = none ∧ n = 0 ∧ c = 0) ∨ ∃ b, A = some ⟨b, 0, none⟩) := by
  obtain ⟨h1, h2, d, s1, s2, ⟨a1, a2, a3, a4⟩, l⟩ := s
  refine ⟨a1, a2, a3, ?_⟩
  rcases a4 with a4 | ⟨b, cur, e1, _⟩
  · exact .inl a4
  · exact .inr ⟨b, e1⟩
theorem Ld.own {L : List HP} {e sz n c b i : Nat} {xs : List Value} {v : Value} (hv : xs[i]? = some v) : Ld (own e sz (some ⟨b, 0, none⟩) n c xs :: L) ⟨b, i, none⟩ v := by
  constructor
  rintro h ⟨h1, h2, d, s1, s2, ⟨a1, a2, a3, a4⟩, l⟩
  rcases a4 with ⟨e1, _⟩ | ⟨b', cur, e1, e2, e3, e4⟩
  · cases e1
  · simp only [Option.some.injEq, Addr.mk.injEq, and_true] at e1
    subst e1
    have := s1 _ _ e2
    rw [← e4, List.getElem?_take] at hv
    split at hv
    · simp [cellOf, this]; simpa using hv
    · cases hv
theorem Rc.own {L : List HP} {e sz n c : Nat} {A : Option Addr} {xs : List Value} (hl : xs.length = n * sz) (hA : 0 < n → ∃ b, A = some ⟨b, 0, none⟩) : Rc (own e sz A n c xs :: L) sz A n xs :=
  ⟨hl, fun hn => let ⟨b, e⟩ := hA hn; ⟨b, 0, e, fun j v hj => by subst e; rw [Nat.zero_add]; exact Ld.own hj⟩⟩
theorem Rc.blk {L : List HP} {e sz b n : Nat} {cs : List Value} (hl : Nat.beq cs.length (n * sz) = true) : Rc (blk b e cs :: L) sz (some ⟨b, 0, none⟩) n cs :=
  ⟨Nat.eq_of_beq_eq_true hl, fun _ => ⟨b, 0, rfl, fun j v hj => by rw [Nat.zero_add]; exact Ld.blk hj⟩⟩
theorem one_all {ys : List Value} (h : ys.all (fun u => u.oneCell') = true) : ∀ u ∈ ys, u.oneCell' = true := by simpa using h
theorem flat_snoc {α : Type} [Enc α] (l : List α) (a : α) : flat l ++ Enc.enc a = flat (l ++ [a]) := by rw [flat_append, flat_cons, flat_nil, List.append_nil]
/-- An empty one, out of nothing. -/
theorem own.nil_ {L : List HP} (e sz : Nat) : ∀ h, sat L h → sat (own e sz none 0 0 [] :: L) h := fun h s =>
  ⟨fun _ => none, h, fun _ => .inl rfl, fun _ _ e => (by cases e), hSub.refl _, ⟨by simp, Nat.le_refl _, Nat.zero_le _, .inl ⟨rfl, rfl, rfl⟩⟩, s⟩
theorem own.of_blk {e sz b n : Nat} {cs : List Value} (hl : cs.length = n * sz) (hn : n ≤ maxLen) : ∀ h, blk b e cs h → own e sz (some ⟨b, 0, .none⟩) n n cs h := fun h k =>
  ⟨hl, Nat.le_refl _, hn,   .inr ⟨b, cs.toArray, rfl, k.eq, by simpa using hl, by rw [List.take_of_length_le]; simp [hl]⟩⟩

/-- One of the list's parts, and the others. -/
inductive Pick (X : HP) : List HP → List HP → Prop where
  | here {L : List HP} : Pick X (X :: L) L
  | skip {Y : HP} {L L' : List HP} (h : Pick X L L') : Pick X (Y :: L) (Y :: L')
theorem Pick.perm {X : HP} {L M : List HP} (h : Pick X L M) : L.Perm (X :: M) := by
  induction h with
  | here => exact .refl _
  | skip _ ih => exact (ih.cons _).trans (.swap _ _ _)

theorem en_app {N L M : List HP} (f : ∀ h, sat L h → sat M h) : ∀ h, sat (N ++ L) h → sat M h := by
  induction N with
  | nil => exact f
  | cons X N ih => exact fun h s => ih h s.tail
theorem en_refl {L : List HP} : ∀ h, sat L h → sat L h := fun _ s => s
theorem en_blk {b : Nat} {T : TypeId} {cs cs' : List Value} {L M N : List HP} (h : Pick (blk b T cs) L M) (e : cs = cs') (f : ∀ h, sat M h → sat N h) : ∀ h, sat L h → sat (blk b T cs' :: N) h := fun _ s => e ▸ (s.perm h.perm).cons_mono f
theorem en_own {e sz n c : Nat} {A : Option Addr} {xs xs' : List Value} {L M N : List HP} (h : Pick (own e sz A n c xs) L M) (ex : xs = xs') (f : ∀ h, sat M h → sat N h) : ∀ h, sat L h → sat (own e sz A n c xs' :: N) h := fun _ s => ex ▸ (s.perm h.perm).cons_mono f
theorem en_pick {X : HP} {L M N : List HP} (h : Pick X L M) (f : ∀ h, sat M h → sat N h) : ∀ h, sat L h → sat (X :: N) h := fun _ s => (s.perm h.perm).cons_mono f
section
variable {P : Program} {g : Glob} {L M : List HP} {σ : Env} {d : Option Nat} {ty T T' : TypeId} {pos : String} {aft : Array Edge} {gd : Option (Nat × Bool)} {x y z : Operand} {v u : Value}
theorem SliceT.zero {e sz by_ : Nat} {zs : List Value} (H : SliceT P T (e, sz, by_)) (HZ : ZeroT P e zs) : ∃ i zv, P.underlying T = some (.slice e) ∧ P.info? e = some i ∧ i.size = sz ∧ i.bytes = by_ ∧ i.zero = some zv ∧ zv.cells.size = zs.length := by
  obtain ⟨hu, i, hi, h1, h2⟩ := H.spec
  have hz := HZ.h
  cases hiz : i.zero with
  | none => rw [hi] at hz; simp [hiz] at hz
  | some zv => rw [hi] at hz; simp [hiz] at hz; exact ⟨i, zv, hu, hi, h1, h2, hiz, by rw [← hz]; simp⟩
/-- append, onto a slice of the call's own. -/
theorem eff_append {e sz by_ n c m q : Nat} {A B : Option Addr} {xs ys zs : List Value} [H : SliceT P T (e, sz, by_)] [HZ : ZeroT P e zs] (hx : ev σ x = some (.slice A n c)) (hy : ev σ y = some (.slice B m q))
    (hp : Pick (own e sz A n c xs) L M) (hr : Rc L sz B m ys) (h1 : ∀ u ∈ ys, u.oneCell' = true) (hz : Nat.beq zs.length sz = true) (h0 : 0 < sz) (hb : (n + m) * by_ ≤ 140737488355328) (hm : n + m ≤ 140737488355328) :
    Eff P g L σ ⟨d, .call ⟨.builtin .append, #[x, y], #[T, T]⟩, ty, pos, aft, gd⟩ fun r L' => ∃ A' c', r = .slice A' (n + m) c' ∧ n + m ≤ c' ∧ c' ≤ maxLen ∧ (0 < n + m → ∃ b, A' = some ⟨b, 0, none⟩) ∧ L' = own e sz A' (n + m) c' (xs ++ ys) :: M := fun a w hs hw K Q hK => by
  obtain ⟨i, zv, hu, hi, hsz, hby, hiz, hzv⟩ := H.zero HZ
  have hzs := Nat.eq_of_beq_eq_true hz
  have hw' : Hp g (own e sz A n c xs :: M) w := hw.mono fun _ => sat.perm hp.perm
  obtain ⟨k1, k2, dj, s1, s2, ⟨o1, o2, o3, o4⟩, l⟩ := hw'.s
  have hown : w.ownsRow 0 e sz (.slice A n c) n xs := by
    refine ⟨o1, ?_⟩
    rcases o4 with ⟨rfl, rfl, rfl⟩ | ⟨b, cur, rfl, e2, e3, e4⟩
    · exact .inl ⟨rfl, rfl⟩
    · exact .inr ⟨b, c, cur, rfl, Nat.zero_le _, s1 _ _ e2, o2, o3, e3, e4⟩
  have fin : ∀ v' w', w'.ownsRow 0 e sz v' (n + m) (xs ++ ys) → w.grownBy w' (Value.slice A n c).ownBlock → (v'.ownBlock = (Value.slice A n c).ownBlock ∨ v'.ownBlock = some w.heap.size) → (v' = .slice none 0 0 → n + m = 0) → K (a.put d v') w' := by
    intro v' w' ho hg hk hnil
    have hoth : ∀ k o, k2 k = some o → w'.hm k = some o ∧ some k ≠ v'.ownBlock := fun k o hko => by
      have hlt : k < w.heap.size := by
        have := s2 _ _ hko
        rcases Nat.lt_or_ge k w.heap.size with h' | h'
        · exact h'
        · simp [World.hm, Array.getElem?_eq_none h'] at this
      have hne : some k ≠ (Value.slice A n c).ownBlock := by
        intro e9
        rcases o4 with ⟨rfl, _⟩ | ⟨b, cur, rfl, e2, _⟩
        · simp [Value.ownBlock] at e9
        · simp [Value.ownBlock] at e9
          subst e9
          rcases dj k with h9 | h9
          · rw [e2] at h9; cases h9
          · rw [hko] at h9; cases h9
      refine ⟨by show w'.heap[k]? = _; rw [hg.block k hlt hne]; exact s2 _ _ hko, fun e9 => ?_⟩
      rcases hk with hk | hk
      · exact hne (e9.trans hk)
      · rw [hk] at e9; simp at e9; omega
    obtain ⟨l1, l2⟩ := ho
    have hglob : glob w' = g.base := by
      have := hw'.g
      rw [← this]
      simp [glob, hg.os, hg.tape, hg.output]
    rcases l2 with ⟨rfl, hn0⟩ | ⟨b, cap, cur, rfl, _, hb', h2, h3, h4, h5⟩
    · have e0 := hn0
      rw [← hn0]
      refine hK _ _ _ ⟨none, 0, by rw [e0], by omega, Nat.zero_le _, fun h9 => absurd h9 (by omega), rfl⟩ ⟨hglob, fun _ => none, k2, fun _ => .inl rfl, fun _ _ e => (by cases e), fun k o h => (hoth k o h).1, ⟨by rw [e0, l1, e0], by omega, Nat.zero_le _, .inl ⟨rfl, e0, rfl⟩⟩, l⟩
    · refine hK _ _ _ ⟨some ⟨b, 0, none⟩, cap, rfl, h2, h3, fun _ => ⟨b, rfl⟩, rfl⟩ ⟨hglob, fun k => if k = b then some (.cells cur e (0, 0)) else none, k2, fun k => ?_, fun k o e => ?_, fun k o h => (hoth k o h).1, ⟨l1, h2, h3, .inr ⟨b, cur, rfl, by simp, h4, h5⟩⟩, l⟩
      · by_cases hkb : k = b
        · right
          cases h9 : k2 k with
          | none => rfl
          | some o => exact absurd (by rw [hkb]; rfl) (hoth k o h9).2
        · left; simp [hkb]
      · replace e : (if k = b then some (Obj.cells cur _ (0, 0)) else none) = some o := e
        by_cases hkb : k = b
        · subst hkb; rw [if_pos rfl] at e; rw [← e]; exact hb'
        · rw [if_neg hkb] at e; cases e
  have h63 : n + m ≤ maxLen := by simp only [maxLen]; omega
  unfold Oper.wp
  have er : ∀ v' w', (Builtin.append_ #[T, T] ty #[.slice A n c, .slice B m q]).run P w = .ok v' w' → (execOp a.eval ⟨d, .call ⟨.builtin .append, #[x, y], #[T, T]⟩, ty, pos, aft, gd⟩).run P w = .ok (.value v') w' := by
    intro v' w' h9
    simp only [execOp, resolve, List.map_toArray, List.map_cons, List.map_nil, hs.eval hx, hs.eval hy]
    simp only [Sem.run_bind, Sem.run_pure, Result.andThen_ok, invoke, builtin, h9]
  rcases Nat.eq_zero_or_pos m with rfl | hm0
  · have hys : ys = [] := List.eq_nil_of_length_eq_zero (by simpa using hr.1)
    subst hys
    rcases B with _ | ad
    · have hrun : (Builtin.append_ #[T, T] ty #[.slice A n c, .slice none 0 q]).run P w = .ok (.slice A n c) w := by
        rcases o4 with ⟨rfl, rfl, rfl⟩ | ⟨b, cur, rfl, _⟩
        · simp [Builtin.append_, run_underlying hu, sizeOf, typeInfo, hi, Builtin.lenOf, Builtin.firstCells]
        · simp [Builtin.append_, run_underlying hu, sizeOf, typeInfo, hi, Builtin.lenOf, Builtin.firstCells, o2, storeCells]
      rw [er _ _ hrun]
      refine fin _ _ (by simpa using hown) ⟨rfl, rfl, rfl, Nat.le_refl _, fun _ _ _ => rfl⟩ (.inl rfl) fun e9 => ?_
      simp only [Value.slice.injEq] at e9
      omega
    · obtain ⟨v', w', h2, h3, h4, h5, h6⟩ := run_append_own_at (P := P) w 0 T ty e i zv sz by_ hu hi hiz hsz hby (by rw [hzv, hzs]) h0 (.slice A n c) n xs hown ad 0 q [] (by simp) (by simp) (by simp) h63 hb (Nat.zero_le _)
      rw [er _ _ h2]
      refine fin _ _ h3 h4 h6 fun e9 => ?_
      have := h5.1 e9
      simp only [Value.slice.injEq] at this
      omega
  · obtain ⟨b, o, rfl, hc⟩ := hr.2 hm0
    obtain ⟨v', w', h2, h3, h4, h5, h6⟩ := run_append_own_at (P := P) w 0 T ty e i zv sz by_ hu hi hiz hsz hby (by rw [hzv, hzs]) h0 (.slice A n c) n xs hown ⟨b, o, none⟩ m q ys hr.1 (fun j u hu => by
      rw [Addr.add_lit]; exact (hc j u hu).1 _ hw.s) h1 h63 hb (Nat.zero_le _)
    rw [er _ _ h2]
    refine fin _ _ h3 h4 h6 fun e9 => ?_
    have := h5.1 e9
    simp only [Value.slice.injEq] at this
    omega
theorem eff_buildSlice0 {e sz by_ : Nat} {zs : List Value} [H : SliceT P T (e, sz, by_)] [HZ : ZeroT P e zs] : Eff P g L σ ⟨d, .buildSlice T 0 #[], ty, pos, aft, gd⟩ fun r L' => ∃ b, r = .slice (some ⟨b, 0, none⟩) 0 0 ∧ L' = own e sz (some ⟨b, 0, none⟩) 0 0 [] :: L := fun a w hs hw K Q hK => by
  refine eff_buildSlice (P := P) (T := T) (H := H) (HZ := HZ) (L := L) (g := g) (σ := σ) (d := d) (ty := ty) (pos := pos) (aft := aft) (gd := gd) (n := 0) (cs := []) (ps := []) (pv := []) (.inl ⟨rfl, rfl, rfl⟩) a w hs hw K Q fun v w' L' ⟨b, h1, h2⟩ hw' => ?_
  subst h2
  exact hK v w' _ ⟨b, h1, rfl⟩ ⟨hw'.g, sat.fold (N := [blk b e []]) (fun h s => by obtain ⟨k1, k2, _, s1, _, a, _⟩ := s; exact own.of_blk (e := e) (sz := sz) (n := 0) (b := b) (cs := []) (by simp) (Nat.zero_le _) h ⟨s1 _ _ a.eq⟩) hw'.s⟩
end
theorem Ld.mono {L M : List HP} (f : ∀ h, sat M h → sat L h) {a : Addr} {v : Value} (h : Ld L a v) : Ld M a v := ⟨fun _ s => h.1 _ (f _ s)⟩
theorem LdN.mono {L M : List HP} (f : ∀ h, sat M h → sat L h) {b o n : Nat} {vs : List Value} (h : LdN L b o n vs) : LdN M b o n vs := ⟨h.1, fun j v hj => (h.2 j v hj).mono f⟩
theorem LdN.app {N L : List HP} {b o n : Nat} {vs : List Value} (h : LdN L b o n vs) : LdN (N ++ L) b o n vs := ⟨h.1, fun j v hj => (h.2 j v hj).app⟩
theorem Rc.mono {L M : List HP} (f : ∀ h, sat M h → sat L h) {sz n : Nat} {A : Option Addr} {xs : List Value} (h : Rc L sz A n xs) : Rc M sz A n xs :=
  ⟨h.1, fun hn => let ⟨b, o, e, g⟩ := h.2 hn; ⟨b, o, e, fun j v hj => (g j v hj).mono f⟩⟩
theorem Rd.mono {α : Type} [Enc α] {L M : List HP} (f : ∀ h, sat M h → sat L h) {n : Nat} {A : Option Addr} {l : List α} (h : Rd L A n l) : Rd M A n l := Rc.mono f h
theorem Upd.app {N L L' : List HP} {b i : Nat} {vs : List Value} (h : Upd b i vs L L') : Upd b i vs (N ++ L) (N ++ L') := by
  induction N with
  | nil => exact h
  | cons A N ih => exact .skip ih
theorem Pick.app {N L L' : List HP} {X : HP} (h : Pick X L L') : Pick X (N ++ L) (N ++ L') := by
  induction N with
  | nil => exact h
  | cons A N ih => exact .skip ih
theorem en_appk {N L M : List HP} (f : ∀ h, sat L h → sat M h) : ∀ h, sat (N ++ L) h → sat (N ++ M) h := by
  induction N with
  | nil => exact f
  | cons A N ih => exact en_keep ih
/-- Some parts, as one. -/
def pk (N : List HP) : HP := fun h => sat N h
theorem en_pack {K L M : List HP} (f : ∀ h, sat L h → sat M h) : ∀ h, sat (K ++ L) h → sat (pk K :: M) h := fun _ s => (en_keep f) _ (sat.join s)
end Go.Proofs.YtkoncepjfgnjlaaGreat
/- Slices that a call has for itself: parts of them; copy, clear, append onto a part. No program stands in this text. -/
namespace Go.Proofs.YtkoncepjfgnjlaaGreat
open Go.RowKit
set_option linter.unusedVariables false
set_option linter.unusedSimpArgs false
set_option linter.unusedSectionVars false

theorem setN_eq : ∀ (cs : List Value) (i : Nat) (vs : List Value), i + vs.length ≤ cs.length → setN cs i vs = cs.take i ++ vs ++ cs.drop (i + vs.length)
  | [], i, vs, h => by
    have : vs = [] := List.eq_nil_of_length_eq_zero (by simp only [List.length_nil] at h; omega)
    subst this
    simp [setN]
  | c :: cs, i, [], h => by rw [setN_nil]; simp
  | c :: cs, 0, v :: vs, h => by
    have e := setN_eq cs 0 vs (by simpa using h)
    simp only [setN, e]
    simp
  | c :: cs, i + 1, v :: vs, h => by
    have e := setN_eq cs i (v :: vs) (by simp at h ⊢; omega)
    simp only [setN, e, List.take_succ_cons, List.cons_append]
    rw [show i + 1 + (v :: vs).length = (i + (v :: vs).length) + 1 by omega, List.drop_succ_cons]
theorem splice_take (cs ys : List Value) (p N : Nat) (h : p + ys.length ≤ N) (hN : N ≤ cs.length) :
    (cs.take p ++ ys ++ cs.drop (p + ys.length)).take N = (cs.take N).take p ++ ys ++ (cs.take N).drop (p + ys.length) := by
  apply List.ext_getElem?
  intro j
  simp only [List.getElem?_append, List.getElem?_take, List.getElem?_drop, List.length_append, List.length_take, List.length_drop]
  repeat' split
  all_goals first
    | rfl
    | omega
    | (congr 1; omega)
    | (exfalso; omega)
section
variable {e sz n c b : Nat} {A : Option Addr} {xs : List Value} {h : Hm}
theorem own.opn (o : own e sz (some ⟨b, 0, none⟩) n c xs h) : ∃ cs, blk b e cs h ∧ cs.length = c * sz ∧ cs.take (n * sz) = xs := by
  rcases o.arr with ⟨e1, _⟩ | ⟨b', cur, e1, e2, e3, e4⟩
  · cases e1
  · simp only [Option.some.injEq, Addr.mk.injEq, and_true] at e1
    subst e1
    exact ⟨cur.toList, ⟨by simpa using e2⟩, by simpa using e3, e4⟩
theorem own.cls {cs : List Value} (k : blk b e cs h) (hl : cs.length = c * sz) (hn : n ≤ c) (hc : c ≤ maxLen) : own e sz (some ⟨b, 0, none⟩) n c (cs.take (n * sz)) h :=
  ⟨by rw [List.length_take, hl]; exact Nat.min_eq_left (Nat.mul_le_mul_right _ hn), hn, hc, .inr ⟨b, cs.toArray, rfl, k.eq, by simpa using hl, rfl⟩⟩
theorem own.less (o : own e sz A n c xs h) {i : Nat} (hi : i ≤ n) : own e sz A i c (xs.take (i * sz)) h := by
  have hm : i * sz ≤ n * sz := Nat.mul_le_mul_right _ hi
  refine ⟨by rw [List.length_take, o.len]; exact Nat.min_eq_left hm, Nat.le_trans hi o.le, o.cap, ?_⟩
  rcases o.arr with ⟨e1, e2, e3⟩ | ⟨b', cur, e1, e2, e3, e4⟩
  · exact .inl ⟨e1, by omega, e3⟩
  · refine .inr ⟨b', cur, e1, e2, e3, ?_⟩
    rw [← e4, List.take_take, Nat.min_eq_left hm]
theorem own.more (o : own e sz (some ⟨b, 0, none⟩) n c xs h) {k : Nat} (h1 : n ≤ k) (h2 : k ≤ c) : ∃ zs : List Value, zs.length = (k - n) * sz ∧ own e sz (some ⟨b, 0, none⟩) k c (xs ++ zs) h := by
  obtain ⟨cs, hb, hcl, htk⟩ := o.opn
  have hm : n * sz ≤ k * sz := Nat.mul_le_mul_right _ h1
  have hm2 : k * sz ≤ c * sz := Nat.mul_le_mul_right _ h2
  refine ⟨(cs.take (k * sz)).drop (n * sz), by rw [List.length_drop, List.length_take, hcl, Nat.sub_mul]; omega, ?_⟩
  have : xs ++ (cs.take (k * sz)).drop (n * sz) = cs.take (k * sz) := by
    rw [← htk]
    have := List.take_append_drop (n * sz) (cs.take (k * sz))
    rw [List.take_take, Nat.min_eq_left hm] at this
    exact this
  rw [this]
  exact own.cls hb hcl h2 o.cap
end
section
variable {P : Program} {g : Glob} {L M : List HP} {σ : Env} {d : Option Nat} {ty T T' : TypeId} {pos : String} {aft : Array Edge} {gd : Option (Nat × Bool)} {x y z : Operand} {v u : Value}
theorem one_of_oneC {ys : List Value} (h : ∀ u ∈ ys, u.oneCell' = true) : ∀ u ∈ ys, oneC u = true := fun u hu => by
  have := h u hu
  cases u <;> first | rfl | (simp [Value.oneCell'] at this)
theorem firstCells_rc {sz n m q : Nat} {B : Option Addr} {ys : List Value} {w : World} (hr : Rc L sz B m ys) (hw : sat L w.hm) (hn : n ≤ m) : (Builtin.firstCells sz n (.slice B m q)).run P w = .ok (ys.take (n * sz)).toArray w := by
  have hlen : (ys.take (n * sz)).length = n * sz := by
    rw [List.length_take, hr.1]
    exact Nat.min_eq_left (Nat.mul_le_mul_right _ hn)
  have key : ∀ a : Addr, (∀ j v, (ys.take (n * sz))[j]? = some v → w.cell? (a.add j) = some v) → (loadCells a (n * sz)).run P w = .ok (ys.take (n * sz)).toArray w := fun a h => by
    have := run_loadCells_list (P := P) w a (ys.take (n * sz)) h
    rwa [hlen] at this
  rcases Nat.eq_zero_or_pos n with h0 | h0
  · subst h0
    cases B with
    | none => simp [Builtin.firstCells]
    | some a =>
      show (loadCells a (0 * sz)).run P w = _
      exact key a (by simp)
  · obtain ⟨b, o, rfl, hc⟩ := hr.2 (by omega)
    show (loadCells ⟨b, o, none⟩ (n * sz)).run P w = _
    refine key _ fun j v hj => ?_
    rw [Addr.add_lit]
    refine (hc j v ?_).1 _ hw
    rw [List.getElem?_take] at hj
    split at hj
    · exact hj
    · cases hj
theorem sat.one {X : HP} {h : Hm} (x : X h) : sat [X] h := ⟨h, fun _ => none, fun _ => .inr rfl, hSub.refl _, fun _ _ e => (by cases e), x, trivial⟩
theorem en_less {e sz n c i : Nat} {A : Option Addr} {xs xs' : List Value} {L M N : List HP} (h : Pick (own e sz A n c xs) L M) (hi : i ≤ n) (ex : xs.take (i * sz) = xs') (f : ∀ h, sat M h → sat N h) : ∀ h, sat L h → sat (own e sz A i c xs' :: N) h := fun _ s =>
  sat.head (N := [own e sz A i c xs']) (fun h o => sat.one (ex ▸ o.less hi)) ((s.perm h.perm).cons_mono f)
/-- From k on; 'c' is the capacity that the whole has. -/
theorem Rc.drop {L : List HP} {sz b o n : Nat} {xs : List Value} (h : Rc L sz (some ⟨b, o, none⟩) n xs) {k c : Nat} (hk : k ≤ n) (hc : n ≤ c) : Rc L sz (some ⟨b, (if c = k then o else o + k * sz), none⟩) (n - k) (xs.drop (k * sz)) := by
  refine ⟨by rw [List.length_drop, h.1, Nat.sub_mul], fun h0 => ?_⟩
  obtain ⟨b', o', e, f⟩ := h.2 (by omega)
  simp only [Option.some.injEq, Addr.mk.injEq, and_true] at e
  obtain ⟨rfl, rfl⟩ := e
  refine ⟨b, o + k * sz, by rw [if_neg (by omega)], fun j v hj => ?_⟩
  rw [List.getElem?_drop] at hj
  rw [Nat.add_assoc]
  exact f _ _ hj
/-- append, onto the first elements of a slice of the call's own, where there is room. -/
theorem eff_appendR {e sz by_ b i n c m q : Nat} {B : Option Addr} {xs ys : List Value} [H : SliceT P T (e, sz, by_)] (hx : ev σ x = some (.slice (some ⟨b, 0, none⟩) i c)) (hy : ev σ y = some (.slice B m q))
    (hp : Pick (own e sz (some ⟨b, 0, none⟩) n c xs) L M) (hr : Rc L sz B m ys) (h1 : ∀ u ∈ ys, u.oneCell' = true) (hin : i ≤ n) (hroom : i + m ≤ c) :
    Eff P g L σ ⟨d, .call ⟨.builtin .append, #[x, y], #[T, T]⟩, ty, pos, aft, gd⟩ fun r L' => r = .slice (some ⟨b, 0, none⟩) (i + m) c ∧ L' = own e sz (some ⟨b, 0, none⟩) (i + m) c (xs.take (i * sz) ++ ys) :: M := fun a w hs hw K Q hK => by
  obtain ⟨hu, i', hi, hsz, _⟩ := H.spec
  have hw' : Hp g (own e sz (some ⟨b, 0, none⟩) n c xs :: M) w := hw.mono fun _ => sat.perm hp.perm
  obtain ⟨k1, k2, dj, s1, s2, ow, l⟩ := hw'.s
  obtain ⟨cs, hb, hcl, htk⟩ := ow.opn
  have hwb : Hp g (blk b e cs :: M) w := ⟨hw'.g, k1, k2, dj, s1, s2, hb, l⟩
  have hld := firstCells_rc (P := P) (q := q) hr hw.s (Nat.le_refl m)
  rw [← hr.1, List.take_length] at hld
  have hfit : i * sz + ys.length ≤ cs.length := by rw [hr.1, hcl, ← Nat.add_mul]; exact Nat.mul_le_mul_right _ hroom
  obtain ⟨w', e2, h2⟩ := storeCells_run (P := P) ys (i * sz) 0 cs w (one_of_oneC h1) (by omega) hwb
  rw [Nat.add_zero] at h2
  have hl2 : (setN cs (i * sz) ys).length = c * sz := by rw [setN_length, hcl]
  obtain ⟨j1, j2, d2, t1, t2, hb2, l2⟩ := h2.s
  have hcl2 := own.cls (sz := sz) (n := i + m) hb2 hl2 hroom ow.cap
  have hin2 : i * sz ≤ n * sz := Nat.mul_le_mul_right _ hin
  have : (setN cs (i * sz) ys).take ((i + m) * sz) = xs.take (i * sz) ++ ys := by
    rw [setN_eq _ _ _ hfit, ← htk, List.take_take, Nat.min_eq_left hin2, Nat.add_mul, ← hr.1]
    have hl3 : (cs.take (i * sz) ++ ys).length = i * sz + ys.length := by
      rw [List.length_append, List.length_take]; omega
    rw [← hl3]
    exact List.take_left
  rw [this] at hcl2
  have hrun : (Builtin.append_ #[T, T] ty #[.slice (some ⟨b, 0, none⟩) i c, .slice B m q]).run P w = .ok (.slice (some ⟨b, 0, none⟩) (i + m) c) w' := by
    simp [Builtin.append_, run_underlying hu, sizeOf, typeInfo, hi, hsz, Builtin.lenOf, hroom, hld, Addr.add_lit, e2]
  unfold Oper.wp
  simp only [execOp, resolve, List.map_toArray, List.map_cons, List.map_nil, hs.eval hx, hs.eval hy]
  simp only [Sem.run_bind, Sem.run_pure, Result.andThen_ok, invoke, builtin, hrun]
  exact hK _ _ _ ⟨rfl, rfl⟩ ⟨h2.g, j1, j2, d2, t1, t2, hcl2, l2⟩
/-- l[i:j:k], of a slice that is there. -/
theorem ev_slice3 {e : TypeId} {sz by_ : Nat} {b o : Nat} {n c : Nat} {l h m : Nat} {q1 q2 q3 : Operand} {k1 k2 k3 : IntKind} [H : SliceT P T (e, sz, by_)] (hx : ev σ x = some (.slice (some ⟨b, o, none⟩) n c)) (hl : ev σ q1 = some (.int k1 l)) (hh : ev σ q2 = some (.int k2 h)) (hm : ev σ q3 = some (.int k3 m)) (h1 : l ≤ h) (h2 : h ≤ m) (h3 : m ≤ c) :
    Ev P L σ ⟨d, .slice T x (some q1) (some q2) (some q3), ty, pos, aft, gd⟩ (.slice (some ⟨b, (if m = l then o else o + l * sz), none⟩) (h - l) (m - l)) := fun a w hs _ => by
  obtain ⟨hu, ii, hi', hsz, _⟩ := H.spec
  have sb : ∀ (k : IntKind) (i y : Nat) (code : BoundsCode), i ≤ y → (Instr.sliceBound (.int k i) y code).run P w = .ok i w := fun k i y code hi => by
    rw [run_sliceBound (P := P) w k i y code (by omega) (by omega)]; simp
  simp only [execOp, hs.eval hx]
  have e4 : (sizeOf e).run P w = .ok sz w := by simp [sizeOf, typeInfo, hi', hsz]
  simp only [Instr.sliceAt, Instr.slice, Instr.sliceBounds, Sem.run_bind, run_underlying hu, Result.andThen_ok, e4, Option.map_some, hs.eval hl, hs.eval hh, hs.eval hm, sb _ _ _ _ h1, sb _ _ _ _ h2, sb _ _ _ _ h3, Sem.run_pure, Option.isSome]
  congr 3
  by_cases hml : m = l
  · simp [hml]
  · simp [hml, Addr.add_lit]
/-- clear, of what lies behind the elements of a slice of the call's own. -/
theorem eff_clear {e sz by_ b o k n c m q : Nat} {xs zs : List Value} [H : SliceT P T (e, sz, by_)] [HZ : ZeroT P e zs] (hz : (zs.all fun u => u.oneCell') = true) (hzl : Nat.beq zs.length sz = true) (hx : ev σ x = some (.slice (some ⟨b, o, none⟩) m q))
    (hp : Pick (own e sz (some ⟨b, 0, none⟩) n c xs) L M) (ho : 0 < m → o = k * sz) (hk : n ≤ k) (hkc : k + m ≤ c) :
    Eff P g L σ ⟨d, .call ⟨.builtin .clear, #[x], #[T]⟩, ty, pos, aft, gd⟩ fun r L' => r = .tuple #[] ∧ L' = own e sz (some ⟨b, 0, none⟩) n c xs :: M := fun a w hs hw K Q hK => by
  obtain ⟨hu, i, hi, hsz, _⟩ := H.spec
  have hw' : Hp g (own e sz (some ⟨b, 0, none⟩) n c xs :: M) w := hw.mono fun _ => sat.perm hp.perm
  unfold Oper.wp
  simp only [execOp, resolve, List.map_toArray, List.map_cons, List.map_nil, hs.eval hx]
  rcases Nat.eq_zero_or_pos m with h0 | h0
  · subst h0
    have hrun : (Builtin.clear_ #[T] ty #[.slice (some ⟨b, o, none⟩) 0 q]).run P w = .ok (.tuple #[]) w := by
      simp [Builtin.clear_, run_underlying hu]
    simp only [Sem.run_bind, Sem.run_pure, Result.andThen_ok, invoke, builtin, hrun]
    exact hK _ _ _ ⟨rfl, rfl⟩ hw'
  · obtain ⟨k1, k2, dj, s1, s2, ow, l⟩ := hw'.s
    obtain ⟨cs, hb, hcl, htk⟩ := ow.opn
    have hwb : Hp g (blk b e cs :: M) w := ⟨hw'.g, k1, k2, dj, s1, s2, hb, l⟩
    obtain ⟨zv, hz1, hz2⟩ := HZ.run w
    have hzl' := Nat.eq_of_beq_eq_true hzl
    have eo := ho h0
    have hzone : ∀ u ∈ zs, u.oneCell' = true := one_all hz
    have hlen : (Builtin.zeroCells zs.toArray m).toList.length = m * sz := by simp only [Builtin.zeroCells, Array.length_toList, Array.size_map, Array.size_range, List.size_toArray, hzl']
    have hzc : ∀ u ∈ (Builtin.zeroCells zs.toArray m).toList, u.oneCell' = true := by
      intro u hu
      simp only [Builtin.zeroCells, Array.toList_map, List.mem_map] at hu
      obtain ⟨j, hj, rfl⟩ := hu
      have hp0 : 0 < zs.length := by
        rcases Nat.eq_zero_or_pos zs.length with h9 | h9
        · simp [h9] at hj
        · exact h9
      have hjm : j % zs.toArray.size < zs.length := by simpa using Nat.mod_lt j hp0
      have e9 : zs.toArray[j % zs.toArray.size]! = zs[j % zs.toArray.size] := by
        have hjm2 : j % zs.length < zs.length := hjm
        simp [hjm2]
      rw [e9]
      exact hzone _ (List.getElem_mem _)
    have h9 : k * sz + m * sz ≤ c * sz := by rw [← Nat.add_mul]; exact Nat.mul_le_mul_right _ hkc
    have hnk : n * sz ≤ k * sz := Nat.mul_le_mul_right _ hk
    obtain ⟨w', e2, h2⟩ := storeCells_run (P := P) (Builtin.zeroCells zs.toArray m).toList o 0 cs w (one_of_oneC hzc) (by rw [hlen, hcl, eo]; omega) hwb
    rw [Nat.add_zero] at h2
    have hl2 : (setN cs o (Builtin.zeroCells zs.toArray m).toList).length = c * sz := by rw [setN_length, hcl]
    obtain ⟨j1, j2, d2, t1, t2, hb2, l2⟩ := h2.s
    have hcl2 := own.cls (sz := sz) (n := n) hb2 hl2 ow.le ow.cap
    have e8 : (setN cs o (Builtin.zeroCells zs.toArray m).toList).take (n * sz) = xs := by
      rw [setN_eq _ _ _ (by rw [hlen, hcl, eo]; omega), eo, ← htk, List.append_assoc, List.take_append, List.take_take, Nat.min_eq_left hnk, List.length_take, hcl]
      rw [show n * sz - min (k * sz) (c * sz) = 0 by omega]
      simp
    rw [e8] at hcl2
    have hrun : (Builtin.clear_ #[T] ty #[.slice (some ⟨b, o, none⟩) m q]).run P w = .ok (.tuple #[]) w' := by
      have hm0 : m ≠ 0 := by omega
      obtain ⟨m', rfl⟩ : ∃ m', m = m' + 1 := ⟨m - 1, by omega⟩
      simp only [Builtin.clear_, Sem.run_bind, run_underlying hu, Result.andThen_ok, hz1, hz2, e2, Sem.run_pure, List.getElem?_toArray, List.getElem?_cons_zero]
    simp only [Sem.run_bind, Sem.run_pure, Result.andThen_ok, invoke, builtin, hrun]
    exact hK _ _ _ ⟨rfl, rfl⟩ ⟨h2.g, j1, j2, d2, t1, t2, hcl2, l2⟩
end
section
variable {P : Program}
end
section
variable {P : Program} {g : Glob} {L M : List HP} {σ : Env} {d : Option Nat} {ty T T' : TypeId} {pos : String} {aft : Array Edge} {gd : Option (Nat × Bool)} {x y z : Operand} {v u : Value}
/-- A type of whole numbers. -/
def intB (P : Program) (T : TypeId) : Bool := match P.underlying T with
  | some (.int _) => true
  | _ => false
class IntT (P : Program) (T : TypeId) : Prop where
  h : intB P T = true
theorem IntT.spec (H : IntT P T) : ∃ k, P.underlying T = some (.int k) := by
  have h := H.h
  unfold intB at h
  split at h
  · exact ⟨_, by assumption⟩
  · cases h
theorem eqGuard_slice (op : BinOp) (p q : Option Addr) (n c m k : Nat) (w : World) : (eqGuard op T x y (.slice p n c) (.slice q m k)).run P w = .ok () w := by
  unfold eqGuard
  split <;> rfl
theorem equal_nilS {r : TypeId × Nat × Nat} (H : SliceT P T r) (p : Option Addr) (n c m k : Nat) (w : World) : (Op.equal T (.slice p n c) (.slice none m k)).run P w = .ok p.isNone w := by
  obtain ⟨e, s, by_⟩ := r
  obtain ⟨he, _⟩ := H.spec
  unfold Op.equal
  rw [show Op.maxDepth = 9999 + 1 from rfl]
  unfold Op.equalIn
  cases p <;> simp only [Sem.run_bind, run_underlying he, Result.andThen_ok] <;> rfl
theorem ev_eqlNilS {p : Option Addr} {n c m k : Nat} {r : TypeId × Nat × Nat} [H : SliceT P T r] (hx : ev σ x = some (.slice p n c)) (hy : ev σ y = some (.slice none m k)) : Ev P L σ ⟨d, .binOp .eql T x y T', ty, pos, aft, gd⟩ (.bool p.isNone) :=
  bin_run' _ _ _ _ (eqGuard_slice _ _ _ _ _ _ _) hx hy fun w => by
    show ((do pure (.bool (← Op.equal T (.slice p n c) (.slice none m k))) : Sem Value)).run P w = _
    simp only [Sem.run_bind, equal_nilS H, Result.andThen_ok, Sem.run_pure]
/-- The library's look at whether two slices share memory. -/
class OvT (P : Program) (f : FuncId) (T : outParam TypeId) : Prop where
  h : ∃ fn R, P.funcs[f]? = some fn ∧ (fn.name == "runtime.NumGoroutine") = false ∧ fn.body.isNone = true ∧ Extern.findNext fn = none ∧ Extern.find fn = some (Extern.SlicesOverlaps.overlaps #[T, T] #[R])
end
end Go.Proofs.YtkoncepjfgnjlaaGreat
/- Equality of structs of numbers. No program stands in this text. -/
namespace Go.Proofs.YtkoncepjfgnjlaaGreat
open Go.RowKit
set_option linter.unusedSimpArgs false
set_option linter.unusedSectionVars false
def unI : List Value → Option (List Int)
  | [] => some []
  | .int .i64 n :: l => match unI l with
    | some r => some (n :: r)
    | none => none
  | _ => none
theorem unI_eq : ∀ {l : List Value} {xs : List Int}, unI l = some xs → l = xs.map (.int .i64)
  | [], xs, h => by simp [unI] at h; subst h; rfl
  | v :: l, xs, h => by
    unfold unI at h
    split at h
    · rename_i e; cases e
    · rename_i n l' e
      cases e
      cases hr : unI l with
      | none => rw [hr] at h; cases h
      | some r => rw [hr] at h; simp at h; subst h; rw [unI_eq hr]; rfl
    · cases h
def intsF (r : TypeId → Nat → Bool) (sz : TypeId → Option Nat) : List Field → Nat → Nat → Bool
  | [], i, n => Nat.beq i n
  | f :: fs, i, n => Nat.beq f.offset i && !(f.name == "_") && (match sz f.type with
    | some m => r f.type m && intsF r sz fs (i + m) n
    | none => false)
/-- Numbers alone, so many, however they are nested. -/
def intsT (P : Program) : Nat → TypeId → Nat → Bool
  | 0, _, _ => false
  | k + 1, T, n => match P.underlying T with
    | some (.int _) => oneB P T && Nat.beq n 1
    | some (.struct fs) => aggB P T n && !P.stoodInHeld T && intsF (intsT P k) (fun T => (P.info? T).map (·.size)) fs.toList 0 n
    | _ => false
def isStr (P : Program) (T : TypeId) : Bool := match P.underlying T with
  | some (.struct _) => true
  | _ => false
def eqI (P : Program) (T : TypeId) (n : Nat) : Bool := isStr P T && intsT P 8 T n && !P.eqGuardType P.depth T
class EqT (P : Program) (T : TypeId) (n : outParam Nat) : Prop where
  h : eqI P T n = true
section
variable {P : Program} {L : List HP} {σ : Env} {d : Option Nat} {ty T T' : TypeId} {pos : String} {aft : Array Edge} {gd : Option (Nat × Bool)} {x y : Operand}
def valT (P : Program) (T : TypeId) (xs : List Int) : Value := match P.underlying T with
  | some (.int _) => .int .i64 (xs.headD 0)
  | _ => .agg (xs.map (Value.int .i64)).toArray
theorem part_ints {k : Nat} {T : TypeId} {m : Nat} (h : intsT P k T m = true) (xs : List Int) (off : Nat) (hx : off + m ≤ xs.length) (w : World) :
    (part T (xs.map (Value.int .i64)).toArray off).run P w = .ok (valT P T ((xs.drop off).take m)) w := by
  cases k with
  | zero => cases h
  | succ k =>
    unfold intsT at h
    unfold valT
    cases hu : P.underlying T with
    | none => rw [hu] at h; cases h
    | some dd =>
      rw [hu] at h
      cases dd <;> first | (cases h; done) | skip
      · simp only [Bool.and_eq_true] at h
        obtain ⟨h1, h2⟩ := h
        have e := Nat.eq_of_beq_eq_true h2
        subst e
        have hlt : off < xs.length := by omega
        have e3 : ((xs.drop off).take 1).headD 0 = xs[off] := by rw [List.drop_eq_getElem_cons hlt]; rfl
        rw [e3]
        simp [part, (OneT.run ⟨h1⟩ w).1, hlt]
      · simp only [Bool.and_eq_true] at h
        obtain ⟨⟨h1, h2⟩, h3⟩ := h
        obtain ⟨e1, e2⟩ := AggT.run (P := P) ⟨h1⟩ w
        simp only [part, Sem.run_bind, e1, Result.andThen_ok, if_true, e2, Sem.run_pure]
        congr 2
        rw [List.extract_toArray, List.extract_eq_take_drop, Nat.add_sub_cancel_left, ← List.map_drop, ← List.map_take]
theorem eqFields_ints {k : Nat} (dp n : Nat) (ih : ∀ (T : TypeId) (m : Nat), intsT P k T m = true → ∀ (xs ys : List Int) (w : World), xs.length = m → ys.length = m → (Op.equalIn dp T (valT P T xs) (valT P T ys)).run P w = .ok (decide (xs = ys)) w)
    (xs ys : List Int) (w : World) (hx : xs.length = n) (hy : ys.length = n) : ∀ (fs : List Field) (i : Nat), intsF (intsT P k) (fun T => (P.info? T).map (·.size)) fs i n = true → i ≤ n →
    (Op.eqFields dp (xs.map (Value.int .i64)).toArray (ys.map (Value.int .i64)).toArray fs).run P w = .ok (decide (xs.drop i = ys.drop i)) w
  | [], i, h, hi => by
    have e := Nat.eq_of_beq_eq_true h
    subst e
    simp [Op.eqFields, List.drop_of_length_le (Nat.le_of_eq hx), List.drop_of_length_le (Nat.le_of_eq hy)]
  | f :: fs, i, h, hi => by
    simp only [intsF, Bool.and_eq_true] at h
    obtain ⟨⟨h1, h2⟩, h3⟩ := h
    have e1 := Nat.eq_of_beq_eq_true h1
    split at h3
    · rename_i m hm
      simp only [Bool.and_eq_true] at h3
      obtain ⟨h4, h5⟩ := h3
      have him : i + m ≤ n := by
        clear h4 ih
        have : ∀ (fs : List Field) (j : Nat), intsF (intsT P k) (fun T => (P.info? T).map (·.size)) fs j n = true → j ≤ n := by
          intro fs
          induction fs with
          | nil => intro j hj; exact Nat.le_of_eq (Nat.eq_of_beq_eq_true hj)
          | cons g gs ig =>
            intro j hj
            simp only [intsF, Bool.and_eq_true] at hj
            obtain ⟨_, hj⟩ := hj
            split at hj
            · simp only [Bool.and_eq_true] at hj
              have := ig _ hj.2
              omega
            · cases hj
        exact this fs _ h5
      have rec_ := eqFields_ints dp n ih xs ys w hx hy fs (i + m) h5 him
      unfold Op.eqFields
      rw [if_pos (by simpa using h2)]
      have ex : (xs.drop i).length ≥ m := by rw [List.length_drop]; omega
      have ey : (ys.drop i).length ≥ m := by rw [List.length_drop]; omega
      have hih := ih f.type m h4 ((xs.drop i).take m) ((ys.drop i).take m) w (by rw [List.length_take]; omega) (by rw [List.length_take]; omega)
      simp only [Sem.run_bind, e1, part_ints h4 xs i (by omega), part_ints h4 ys i (by omega), Result.andThen_ok, hih]
      have sx : xs.drop i = (xs.drop i).take m ++ xs.drop (i + m) := by rw [← List.drop_drop, List.take_append_drop]
      have sy : ys.drop i = (ys.drop i).take m ++ ys.drop (i + m) := by rw [← List.drop_drop, List.take_append_drop]
      have key : decide (xs.drop i = ys.drop i) = (decide ((xs.drop i).take m = (ys.drop i).take m) && decide (xs.drop (i + m) = ys.drop (i + m))) := by
        rw [← Bool.decide_and]
        apply decide_eq_decide.2
        constructor
        · intro h
          rw [← List.drop_drop, ← List.drop_drop, h]
          exact ⟨rfl, rfl⟩
        · rintro ⟨a, b⟩
          rw [sx, sy, a, b]
      rw [key]
      cases hc : decide ((xs.drop i).take m = (ys.drop i).take m) with
      | true => simp [rec_]
      | false => simp
    · cases h3
theorem equal_ints : ∀ (k : Nat) (T : TypeId) (n : Nat), intsT P k T n = true → ∀ (d : Nat), k ≤ d → ∀ (xs ys : List Int) (w : World), xs.length = n → ys.length = n → (Op.equalIn d T (valT P T xs) (valT P T ys)).run P w = .ok (decide (xs = ys)) w
  | 0, _, _, h, _, _, _, _, _, _, _ => by cases h
  | k + 1, T, n, h, d, hd, xs, ys, w, hx, hy => by
    obtain ⟨d, rfl⟩ : ∃ e, d = e + 1 := ⟨d - 1, by omega⟩
    unfold intsT at h
    unfold valT
    cases hu : P.underlying T with
    | none => rw [hu] at h; cases h
    | some dd =>
      rw [hu] at h
      cases dd <;> first | (cases h; done) | skip
      · rename_i kk
        simp only [Bool.and_eq_true] at h
        have e := Nat.eq_of_beq_eq_true h.2
        subst e
        match xs, ys, hx, hy with
        | [a], [b], _, _ =>
          simp only [List.headD_cons]
          rw [run_equalIn_int w d T .i64 kk _ _ hu]
          congr 1
          by_cases hab : a = b <;> simp [hab]
      · rename_i fs
        simp only [Bool.and_eq_true, Bool.not_eq_true'] at h
        obtain ⟨⟨h1, h2⟩, h3⟩ := h
        have hf : P.fieldsOf T = fs := by simp [Program.fieldsOf, hu]
        rw [run_equalIn_struct w _ T _ _ (by rw [hf]; exact hu) h2, hf]
        have := eqFields_ints (P := P) (k := k) d n (fun T m hm xs ys w hx hy => equal_ints k T m hm d (by omega) xs ys w hx hy) xs ys w hx hy fs.toList 0 h3 (Nat.zero_le _)
        simpa using this
theorem equal_int {n : Nat} [H : EqT P T n] {xs ys : List Int} (hx : xs.length = n) (hy : ys.length = n) (w : World) : (Op.equal T (.agg (xs.map (Value.int .i64)).toArray) (.agg (ys.map (Value.int .i64)).toArray)).run P w = .ok (decide (xs = ys)) w ∧ P.eqGuardType P.depth T = false := by
  have h := H.h
  unfold eqI at h
  simp only [Bool.and_eq_true, Bool.not_eq_true'] at h
  obtain ⟨⟨h1, h2⟩, h3⟩ := h
  refine ⟨?_, h3⟩
  have hv : ∀ xs : List Int, Value.agg (xs.map (Value.int .i64)).toArray = valT P T xs := fun xs => by
    unfold isStr at h1
    unfold valT
    split at h1
    · rename_i fs hu; rw [hu]
    · cases h1
  unfold Op.equal
  rw [hv, hv]
  exact equal_ints 8 T n h2 Op.maxDepth (by decide) xs ys w hx hy
theorem ev_eqlS {n : Nat} {cs es : List Value} {xs ys : List Int} [H : EqT P T n] (hx : ev σ x = some (.agg cs.toArray)) (hy : ev σ y = some (.agg es.toArray)) (h1 : unI cs = some xs) (h2 : unI es = some ys) (h3 : Nat.beq xs.length n = true) (h4 : Nat.beq ys.length n = true) :
    Ev P L σ ⟨d, .binOp .eql T x y T', ty, pos, aft, gd⟩ (.bool (decide (xs = ys))) := by
  have e1 := unI_eq h1
  have e2 := unI_eq h2
  have key := fun w => equal_int (P := P) (T := T) (Nat.eq_of_beq_eq_true h3) (Nat.eq_of_beq_eq_true h4) w
  refine bin_run' _ _ _ _ (fun w => run_eqGuard_agg w _ _ _ _ _ _ (key w).2) hx hy fun w => ?_
  show ((do pure (.bool (← Op.equal T (.agg cs.toArray) (.agg es.toArray))) : Sem Value)).run P w = _
  rw [e1, e2]
  simp only [Sem.run_bind, (key w).1, Result.andThen_ok, Sem.run_pure]
end
end Go.Proofs.YtkoncepjfgnjlaaGreat
/- What is asked of the program's types and functions. Written by a program (gen.py). -/
namespace Go.Proofs.YtkoncepjfgnjlaaGreat
instance : OneT Tryz.prog 3 := ⟨by kernel_rfl⟩
instance : ZeroT Tryz.prog 3 [.int .i64 0] := ⟨by kernel_rfl⟩
instance : IntT Tryz.prog 3 := ⟨by kernel_rfl⟩
instance : OneT Tryz.prog 4 := ⟨by kernel_rfl⟩
instance : ZeroT Tryz.prog 4 [.bool false] := ⟨by kernel_rfl⟩
instance : BoolT Tryz.prog 4 := ⟨by kernel_rfl⟩
instance : OneT Tryz.prog 5 := ⟨by kernel_rfl⟩
instance : ZeroT Tryz.prog 5 [.int .u8 0] := ⟨by kernel_rfl⟩
instance : IntT Tryz.prog 5 := ⟨by kernel_rfl⟩
instance : OneT Tryz.prog 9 := ⟨by kernel_rfl⟩
instance : OneT Tryz.prog 20 := ⟨by kernel_rfl⟩
instance : ZeroT Tryz.prog 20 [.nilIface] := ⟨by kernel_rfl⟩
instance : OneT Tryz.prog 22 := ⟨by kernel_rfl⟩
instance : ZeroT Tryz.prog 22 [.pointer none] := ⟨by kernel_rfl⟩
instance : PtrT Tryz.prog 22 := ⟨by kernel_rfl⟩
instance : OneT Tryz.prog 23 := ⟨by kernel_rfl⟩
instance : ZeroT Tryz.prog 23 [.int .i64 0] := ⟨by kernel_rfl⟩
instance : IntT Tryz.prog 23 := ⟨by kernel_rfl⟩
instance : AggT Tryz.prog 28 3 := ⟨by kernel_rfl⟩
instance : ZeroT Tryz.prog 28 [.int .i64 0, .int .i64 0, .int .i64 0] := ⟨by kernel_rfl⟩
instance : EqT Tryz.prog 28 3 := ⟨by kernel_rfl⟩
instance : StructT Tryz.prog 28 [(0, 1), (1, 1), (2, 1)] := ⟨by kernel_rfl⟩
instance : FldT Tryz.prog 28 0 (0, 1, false) := ⟨by kernel_rfl⟩
instance : FldT Tryz.prog 28 1 (1, 1, false) := ⟨by kernel_rfl⟩
instance : FldT Tryz.prog 28 2 (2, 1, false) := ⟨by kernel_rfl⟩
instance : OneT Tryz.prog 29 := ⟨by kernel_rfl⟩
instance : ZeroT Tryz.prog 29 [.int .u64 0] := ⟨by kernel_rfl⟩
instance : IntT Tryz.prog 29 := ⟨by kernel_rfl⟩
instance : OneT Tryz.prog 33 := ⟨by kernel_rfl⟩
instance : ZeroT Tryz.prog 33 [.slice none 0 0] := ⟨by kernel_rfl⟩
instance : SliceT Tryz.prog 33 (43, 5, 40) := ⟨by kernel_rfl⟩
instance : AggT Tryz.prog 35 4 := ⟨by kernel_rfl⟩
instance : ZeroT Tryz.prog 35 [.int .i64 0, .int .i64 0, .int .i64 0, .int .i64 0] := ⟨by kernel_rfl⟩
instance : EqT Tryz.prog 35 4 := ⟨by kernel_rfl⟩
instance : StructT Tryz.prog 35 [(0, 1), (1, 1), (2, 1), (3, 1)] := ⟨by kernel_rfl⟩
instance : FldT Tryz.prog 35 0 (0, 1, false) := ⟨by kernel_rfl⟩
instance : FldT Tryz.prog 35 1 (1, 1, false) := ⟨by kernel_rfl⟩
instance : FldT Tryz.prog 35 2 (2, 1, false) := ⟨by kernel_rfl⟩
instance : FldT Tryz.prog 35 3 (3, 1, false) := ⟨by kernel_rfl⟩
instance : OneT Tryz.prog 37 := ⟨by kernel_rfl⟩
instance : ZeroT Tryz.prog 37 [.slice none 0 0] := ⟨by kernel_rfl⟩
instance : SliceT Tryz.prog 37 (38, 1, 24) := ⟨by kernel_rfl⟩
instance : OneT Tryz.prog 38 := ⟨by kernel_rfl⟩
instance : ZeroT Tryz.prog 38 [.slice none 0 0] := ⟨by kernel_rfl⟩
instance : SliceT Tryz.prog 38 (28, 3, 24) := ⟨by kernel_rfl⟩
instance : AggT Tryz.prog 40 4 := ⟨by kernel_rfl⟩
instance : ZeroT Tryz.prog 40 [.slice none 0 0, .slice none 0 0, .int .i64 0, .int .i64 0] := ⟨by kernel_rfl⟩
instance : StructT Tryz.prog 40 [(0, 1), (1, 1), (2, 1), (3, 1)] := ⟨by kernel_rfl⟩
instance : FldT Tryz.prog 40 0 (0, 1, false) := ⟨by kernel_rfl⟩
instance : FldT Tryz.prog 40 1 (1, 1, false) := ⟨by kernel_rfl⟩
instance : FldT Tryz.prog 40 2 (2, 1, false) := ⟨by kernel_rfl⟩
instance : FldT Tryz.prog 40 3 (3, 1, false) := ⟨by kernel_rfl⟩
instance : AggT Tryz.prog 43 5 := ⟨by kernel_rfl⟩
instance : ZeroT Tryz.prog 43 [.int .i64 0, .int .i64 0, .int .i64 0, .int .i64 0, .int .i64 0] := ⟨by kernel_rfl⟩
instance : EqT Tryz.prog 43 5 := ⟨by kernel_rfl⟩
instance : StructT Tryz.prog 43 [(0, 1), (1, 1), (2, 3)] := ⟨by kernel_rfl⟩
instance : FldT Tryz.prog 43 0 (0, 1, false) := ⟨by kernel_rfl⟩
instance : FldT Tryz.prog 43 1 (1, 1, false) := ⟨by kernel_rfl⟩
instance : FldT Tryz.prog 43 2 (2, 3, true) := ⟨by kernel_rfl⟩
instance : OneT Tryz.prog 45 := ⟨by kernel_rfl⟩
instance : ZeroT Tryz.prog 45 [.slice none 0 0] := ⟨by kernel_rfl⟩
instance : SliceT Tryz.prog 45 (3, 1, 8) := ⟨by kernel_rfl⟩
instance : AggT Tryz.prog 49 2 := ⟨by kernel_rfl⟩
instance : ZeroT Tryz.prog 49 [.slice none 0 0, .int .i64 0] := ⟨by kernel_rfl⟩
instance : StructT Tryz.prog 49 [(0, 1), (1, 1)] := ⟨by kernel_rfl⟩
instance : FldT Tryz.prog 49 0 (0, 1, false) := ⟨by kernel_rfl⟩
instance : FldT Tryz.prog 49 1 (1, 1, false) := ⟨by kernel_rfl⟩
instance : OneT Tryz.prog 57 := ⟨by kernel_rfl⟩
instance : ZeroT Tryz.prog 57 [.slice none 0 0] := ⟨by kernel_rfl⟩
instance : SliceT Tryz.prog 57 (63, 1, 8) := ⟨by kernel_rfl⟩
instance : OneT Tryz.prog 59 := ⟨by kernel_rfl⟩
instance : ZeroT Tryz.prog 59 [.pointer none] := ⟨by kernel_rfl⟩
instance : PtrT Tryz.prog 59 := ⟨by kernel_rfl⟩
instance : OneT Tryz.prog 63 := ⟨by kernel_rfl⟩
instance : ZeroT Tryz.prog 63 [.pointer none] := ⟨by kernel_rfl⟩
instance : PtrT Tryz.prog 63 := ⟨by kernel_rfl⟩
instance : OneT Tryz.prog 67 := ⟨by kernel_rfl⟩
instance : ZeroT Tryz.prog 67 [.map none] := ⟨by kernel_rfl⟩
instance : AggT Tryz.prog 69 5 := ⟨by kernel_rfl⟩
instance : ZeroT Tryz.prog 69 [.slice none 0 0, .map none, .int .i64 0, .int .i64 0, .int .i64 0] := ⟨by kernel_rfl⟩
instance : StructT Tryz.prog 69 [(0, 1), (1, 1), (2, 1), (3, 1), (4, 1)] := ⟨by kernel_rfl⟩
instance : FldT Tryz.prog 69 0 (0, 1, false) := ⟨by kernel_rfl⟩
instance : FldT Tryz.prog 69 1 (1, 1, false) := ⟨by kernel_rfl⟩
instance : FldT Tryz.prog 69 2 (2, 1, false) := ⟨by kernel_rfl⟩
instance : FldT Tryz.prog 69 3 (3, 1, false) := ⟨by kernel_rfl⟩
instance : FldT Tryz.prog 69 4 (4, 1, false) := ⟨by kernel_rfl⟩
instance : OneT Tryz.prog 82 := ⟨by kernel_rfl⟩
instance : ZeroT Tryz.prog 82 [.pointer none] := ⟨by kernel_rfl⟩
instance : PtrT Tryz.prog 82 := ⟨by kernel_rfl⟩
instance : AggT Tryz.prog 84 3 := ⟨by kernel_rfl⟩
instance : ZeroT Tryz.prog 84 [.pointer none, .int .i64 0, .int .i64 0] := ⟨by kernel_rfl⟩
instance : StructT Tryz.prog 84 [(0, 1), (1, 1), (2, 1)] := ⟨by kernel_rfl⟩
instance : FldT Tryz.prog 84 0 (0, 1, false) := ⟨by kernel_rfl⟩
instance : FldT Tryz.prog 84 1 (1, 1, false) := ⟨by kernel_rfl⟩
instance : FldT Tryz.prog 84 2 (2, 1, false) := ⟨by kernel_rfl⟩
instance : OneT Tryz.prog 85 := ⟨by kernel_rfl⟩
instance : ZeroT Tryz.prog 85 [.pointer none] := ⟨by kernel_rfl⟩
instance : PtrT Tryz.prog 85 := ⟨by kernel_rfl⟩
instance : AggT Tryz.prog 87 9 := ⟨by kernel_rfl⟩
instance : ZeroT Tryz.prog 87 [.pointer none, .int .i64 0, .int .i64 0, .int .i64 0, .int .i64 0, .bool false, .slice none 0 0, .int .i64 0, .int .i64 0] := ⟨by kernel_rfl⟩
instance : StructT Tryz.prog 87 [(0, 1), (1, 4), (5, 1), (6, 1), (7, 1), (8, 1)] := ⟨by kernel_rfl⟩
instance : FldT Tryz.prog 87 0 (0, 1, false) := ⟨by kernel_rfl⟩
instance : FldT Tryz.prog 87 1 (1, 4, true) := ⟨by kernel_rfl⟩
instance : FldT Tryz.prog 87 2 (5, 1, false) := ⟨by kernel_rfl⟩
instance : FldT Tryz.prog 87 3 (6, 1, false) := ⟨by kernel_rfl⟩
instance : FldT Tryz.prog 87 4 (7, 1, false) := ⟨by kernel_rfl⟩
instance : FldT Tryz.prog 87 5 (8, 1, false) := ⟨by kernel_rfl⟩
instance : OneT Tryz.prog 88 := ⟨by kernel_rfl⟩
instance : ZeroT Tryz.prog 88 [.nilFunc] := ⟨by kernel_rfl⟩
instance : OneT Tryz.prog 91 := ⟨by kernel_rfl⟩
instance : ZeroT Tryz.prog 91 [.nilFunc] := ⟨by kernel_rfl⟩
instance : AggT Tryz.prog 99 2 := ⟨by kernel_rfl⟩
instance : ZeroT Tryz.prog 99 [.pointer none, .slice none 0 0] := ⟨by kernel_rfl⟩
instance : StructT Tryz.prog 99 [(0, 1), (1, 1)] := ⟨by kernel_rfl⟩
instance : FldT Tryz.prog 99 0 (0, 1, false) := ⟨by kernel_rfl⟩
instance : FldT Tryz.prog 99 1 (1, 1, false) := ⟨by kernel_rfl⟩
instance : OneT Tryz.prog 101 := ⟨by kernel_rfl⟩
instance : ZeroT Tryz.prog 101 [.pointer none] := ⟨by kernel_rfl⟩
instance : PtrT Tryz.prog 101 := ⟨by kernel_rfl⟩
instance : AggT Tryz.prog 102 2 := ⟨by kernel_rfl⟩
instance : ZeroT Tryz.prog 102 [.pointer none, .pointer none] := ⟨by kernel_rfl⟩
instance : ArrT Tryz.prog 102 (2, 82, 1) := ⟨by kernel_rfl⟩
instance : AggT Tryz.prog 104 5 := ⟨by kernel_rfl⟩
instance : ZeroT Tryz.prog 104 [.pointer none, .int .i64 0, .int .i64 0, .pointer none, .pointer none] := ⟨by kernel_rfl⟩
instance : StructT Tryz.prog 104 [(0, 1), (1, 1), (2, 1), (3, 2)] := ⟨by kernel_rfl⟩
instance : FldT Tryz.prog 104 0 (0, 1, false) := ⟨by kernel_rfl⟩
instance : FldT Tryz.prog 104 1 (1, 1, false) := ⟨by kernel_rfl⟩
instance : FldT Tryz.prog 104 2 (2, 1, false) := ⟨by kernel_rfl⟩
instance : FldT Tryz.prog 104 3 (3, 2, true) := ⟨by kernel_rfl⟩
instance : AggT Tryz.prog 111 3 := ⟨by kernel_rfl⟩
instance : ZeroT Tryz.prog 111 [.int .i64 0, .int .i64 0, .int .i64 0] := ⟨by kernel_rfl⟩
instance : ArrT Tryz.prog 111 (3, 3, 1) := ⟨by kernel_rfl⟩
instance : OneT Tryz.prog 121 := ⟨by kernel_rfl⟩
instance : ZeroT Tryz.prog 121 [.pointer none] := ⟨by kernel_rfl⟩
instance : PtrT Tryz.prog 121 := ⟨by kernel_rfl⟩
instance : AggT Tryz.prog 123 3 := ⟨by kernel_rfl⟩
instance : ZeroT Tryz.prog 123 [.pointer none, .nilFunc, .int .i64 0] := ⟨by kernel_rfl⟩
instance : StructT Tryz.prog 123 [(0, 1), (1, 1), (2, 1)] := ⟨by kernel_rfl⟩
instance : FldT Tryz.prog 123 0 (0, 1, false) := ⟨by kernel_rfl⟩
instance : FldT Tryz.prog 123 1 (1, 1, false) := ⟨by kernel_rfl⟩
instance : FldT Tryz.prog 123 2 (2, 1, false) := ⟨by kernel_rfl⟩
instance : AggT Tryz.prog 125 2 := ⟨by kernel_rfl⟩
instance : ZeroT Tryz.prog 125 [.int .i64 0, .int .i64 0] := ⟨by kernel_rfl⟩
instance : EqT Tryz.prog 125 2 := ⟨by kernel_rfl⟩
instance : StructT Tryz.prog 125 [(0, 1), (1, 1)] := ⟨by kernel_rfl⟩
instance : FldT Tryz.prog 125 0 (0, 1, false) := ⟨by kernel_rfl⟩
instance : FldT Tryz.prog 125 1 (1, 1, false) := ⟨by kernel_rfl⟩
instance : OneT Tryz.prog 128 := ⟨by kernel_rfl⟩
instance : ZeroT Tryz.prog 128 [.slice none 0 0] := ⟨by kernel_rfl⟩
instance : SliceT Tryz.prog 128 (84, 3, 24) := ⟨by kernel_rfl⟩
instance : AggT Tryz.prog 132 2 := ⟨by kernel_rfl⟩
instance : ZeroT Tryz.prog 132 [.slice none 0 0, .int .i64 0] := ⟨by kernel_rfl⟩
instance : StructT Tryz.prog 132 [(0, 1), (1, 1)] := ⟨by kernel_rfl⟩
instance : FldT Tryz.prog 132 0 (0, 1, false) := ⟨by kernel_rfl⟩
instance : FldT Tryz.prog 132 1 (1, 1, false) := ⟨by kernel_rfl⟩
instance : OneT Tryz.prog 150 := ⟨by kernel_rfl⟩
instance : ZeroT Tryz.prog 150 [.slice none 0 0] := ⟨by kernel_rfl⟩
instance : SliceT Tryz.prog 150 (154, 5, 40) := ⟨by kernel_rfl⟩
instance : AggT Tryz.prog 152 3 := ⟨by kernel_rfl⟩
instance : ZeroT Tryz.prog 152 [.slice none 0 0, .pointer none, .pointer none] := ⟨by kernel_rfl⟩
instance : StructT Tryz.prog 152 [(0, 1), (1, 1), (2, 1)] := ⟨by kernel_rfl⟩
instance : FldT Tryz.prog 152 0 (0, 1, false) := ⟨by kernel_rfl⟩
instance : FldT Tryz.prog 152 1 (1, 1, false) := ⟨by kernel_rfl⟩
instance : FldT Tryz.prog 152 2 (2, 1, false) := ⟨by kernel_rfl⟩
instance : AggT Tryz.prog 154 5 := ⟨by kernel_rfl⟩
instance : ZeroT Tryz.prog 154 [.int .i64 0, .int .i64 0, .int .i64 0, .int .i64 0, .int .i64 0] := ⟨by kernel_rfl⟩
instance : EqT Tryz.prog 154 5 := ⟨by kernel_rfl⟩
instance : StructT Tryz.prog 154 [(0, 3), (3, 1), (4, 1)] := ⟨by kernel_rfl⟩
instance : FldT Tryz.prog 154 0 (0, 3, true) := ⟨by kernel_rfl⟩
instance : FldT Tryz.prog 154 1 (3, 1, false) := ⟨by kernel_rfl⟩
instance : FldT Tryz.prog 154 2 (4, 1, false) := ⟨by kernel_rfl⟩
instance : OneT Tryz.prog 162 := ⟨by kernel_rfl⟩
instance : ZeroT Tryz.prog 162 [.nilFunc] := ⟨by kernel_rfl⟩
instance : AggT Tryz.prog 169 3 := ⟨by kernel_rfl⟩
instance : ZeroT Tryz.prog 169 [.pointer none, .int .i64 0, .int .i64 0] := ⟨by kernel_rfl⟩
instance : StructT Tryz.prog 169 [(0, 1), (1, 1), (2, 1)] := ⟨by kernel_rfl⟩
instance : FldT Tryz.prog 169 0 (0, 1, false) := ⟨by kernel_rfl⟩
instance : FldT Tryz.prog 169 1 (1, 1, false) := ⟨by kernel_rfl⟩
instance : FldT Tryz.prog 169 2 (2, 1, false) := ⟨by kernel_rfl⟩
instance : OneT Tryz.prog 178 := ⟨by kernel_rfl⟩
instance : ZeroT Tryz.prog 178 [.int .i64 0] := ⟨by kernel_rfl⟩
instance : IntT Tryz.prog 178 := ⟨by kernel_rfl⟩
instance : OneT Tryz.prog 185 := ⟨by kernel_rfl⟩
instance : ZeroT Tryz.prog 185 [.int .u32 0] := ⟨by kernel_rfl⟩
instance : IntT Tryz.prog 185 := ⟨by kernel_rfl⟩
instance : OneT Tryz.prog 187 := ⟨by kernel_rfl⟩
instance : ZeroT Tryz.prog 187 [.int .u64 0] := ⟨by kernel_rfl⟩
instance : IntT Tryz.prog 187 := ⟨by kernel_rfl⟩
instance : OneT Tryz.prog 190 := ⟨by kernel_rfl⟩
instance : ZeroT Tryz.prog 190 [.int .u64 0] := ⟨by kernel_rfl⟩
instance : IntT Tryz.prog 190 := ⟨by kernel_rfl⟩
instance : CalT Tryz.prog 2 := ⟨by kernel_rfl⟩
instance : CalT Tryz.prog 3 := ⟨by kernel_rfl⟩
instance : CalT Tryz.prog 4 := ⟨by kernel_rfl⟩
instance : CalT Tryz.prog 5 := ⟨by kernel_rfl⟩
instance : CalT Tryz.prog 6 := ⟨by kernel_rfl⟩
instance : CalT Tryz.prog 7 := ⟨by kernel_rfl⟩
instance : CalT Tryz.prog 8 := ⟨by kernel_rfl⟩
instance : CalT Tryz.prog 9 := ⟨by kernel_rfl⟩
instance : CalT Tryz.prog 10 := ⟨by kernel_rfl⟩
instance : CalT Tryz.prog 11 := ⟨by kernel_rfl⟩
instance : CalT Tryz.prog 12 := ⟨by kernel_rfl⟩
instance : CalT Tryz.prog 13 := ⟨by kernel_rfl⟩
instance : CalT Tryz.prog 14 := ⟨by kernel_rfl⟩
instance : CalT Tryz.prog 15 := ⟨by kernel_rfl⟩
instance : CalT Tryz.prog 16 := ⟨by kernel_rfl⟩
instance : CalT Tryz.prog 17 := ⟨by kernel_rfl⟩
instance : CalT Tryz.prog 18 := ⟨by kernel_rfl⟩
instance : CalT Tryz.prog 19 := ⟨by kernel_rfl⟩
instance : CalT Tryz.prog 20 := ⟨by kernel_rfl⟩
instance : CalT Tryz.prog 21 := ⟨by kernel_rfl⟩
instance : CalT Tryz.prog 22 := ⟨by kernel_rfl⟩
instance : CalT Tryz.prog 23 := ⟨by kernel_rfl⟩
instance : CalT Tryz.prog 24 := ⟨by kernel_rfl⟩
instance : CalT Tryz.prog 25 := ⟨by kernel_rfl⟩
instance : CalT Tryz.prog 26 := ⟨by kernel_rfl⟩
instance : CalT Tryz.prog 27 := ⟨by kernel_rfl⟩
instance : CalT Tryz.prog 28 := ⟨by kernel_rfl⟩
instance : CalT Tryz.prog 29 := ⟨by kernel_rfl⟩
instance : CalT Tryz.prog 30 := ⟨by kernel_rfl⟩
instance : CalT Tryz.prog 31 := ⟨by kernel_rfl⟩
instance : CalT Tryz.prog 32 := ⟨by kernel_rfl⟩
instance : CalT Tryz.prog 33 := ⟨by kernel_rfl⟩
instance : CalT Tryz.prog 34 := ⟨by kernel_rfl⟩
instance : CalT Tryz.prog 35 := ⟨by kernel_rfl⟩
instance : CalT Tryz.prog 36 := ⟨by kernel_rfl⟩
instance : CalT Tryz.prog 37 := ⟨by kernel_rfl⟩
instance : CalT Tryz.prog 38 := ⟨by kernel_rfl⟩
instance : CalT Tryz.prog 39 := ⟨by kernel_rfl⟩
instance : CalT Tryz.prog 40 := ⟨by kernel_rfl⟩
instance : CalT Tryz.prog 41 := ⟨by kernel_rfl⟩
instance : CalT Tryz.prog 42 := ⟨by kernel_rfl⟩
instance : CalT Tryz.prog 43 := ⟨by kernel_rfl⟩
instance : CalT Tryz.prog 44 := ⟨by kernel_rfl⟩
instance : CalT Tryz.prog 45 := ⟨by kernel_rfl⟩
instance : CalT Tryz.prog 46 := ⟨by kernel_rfl⟩
instance : CalT Tryz.prog 47 := ⟨by kernel_rfl⟩
instance : CalT Tryz.prog 48 := ⟨by kernel_rfl⟩
instance : CalT Tryz.prog 49 := ⟨by kernel_rfl⟩
instance : CalT Tryz.prog 50 := ⟨by kernel_rfl⟩
instance : CalT Tryz.prog 51 := ⟨by kernel_rfl⟩
instance : CalT Tryz.prog 52 := ⟨by kernel_rfl⟩
instance : CalT Tryz.prog 53 := ⟨by kernel_rfl⟩
instance : CalT Tryz.prog 54 := ⟨by kernel_rfl⟩
instance : CalT Tryz.prog 55 := ⟨by kernel_rfl⟩
instance : CalT Tryz.prog 56 := ⟨by kernel_rfl⟩
instance : CalT Tryz.prog 57 := ⟨by kernel_rfl⟩
instance : CalT Tryz.prog 58 := ⟨by kernel_rfl⟩
instance : CalT Tryz.prog 59 := ⟨by kernel_rfl⟩
instance : CalT Tryz.prog 60 := ⟨by kernel_rfl⟩
instance : CalT Tryz.prog 61 := ⟨by kernel_rfl⟩
instance : CalT Tryz.prog 62 := ⟨by kernel_rfl⟩
instance : CalT Tryz.prog 63 := ⟨by kernel_rfl⟩
instance : CalT Tryz.prog 64 := ⟨by kernel_rfl⟩
instance : CalT Tryz.prog 65 := ⟨by kernel_rfl⟩
instance : CalT Tryz.prog 66 := ⟨by kernel_rfl⟩
instance : CalT Tryz.prog 67 := ⟨by kernel_rfl⟩
instance : CalT Tryz.prog 68 := ⟨by kernel_rfl⟩
instance : CalT Tryz.prog 69 := ⟨by kernel_rfl⟩
instance : CalT Tryz.prog 70 := ⟨by kernel_rfl⟩
instance : CalT Tryz.prog 71 := ⟨by kernel_rfl⟩
instance : CalT Tryz.prog 72 := ⟨by kernel_rfl⟩
instance : CalT Tryz.prog 73 := ⟨by kernel_rfl⟩
instance : CalT Tryz.prog 74 := ⟨by kernel_rfl⟩
instance : CalT Tryz.prog 75 := ⟨by kernel_rfl⟩
instance : CalT Tryz.prog 76 := ⟨by kernel_rfl⟩
instance : CalT Tryz.prog 77 := ⟨by kernel_rfl⟩
instance : CalT Tryz.prog 78 := ⟨by kernel_rfl⟩
instance : CalT Tryz.prog 79 := ⟨by kernel_rfl⟩
instance : CalT Tryz.prog 80 := ⟨by kernel_rfl⟩
instance : CalT Tryz.prog 81 := ⟨by kernel_rfl⟩
instance : CalT Tryz.prog 82 := ⟨by kernel_rfl⟩
instance : CalT Tryz.prog 83 := ⟨by kernel_rfl⟩
instance : CalT Tryz.prog 84 := ⟨by kernel_rfl⟩
instance : CalT Tryz.prog 85 := ⟨by kernel_rfl⟩
instance : CalT Tryz.prog 86 := ⟨by kernel_rfl⟩
instance : CalT Tryz.prog 87 := ⟨by kernel_rfl⟩
instance : CalT Tryz.prog 88 := ⟨by kernel_rfl⟩
instance : CalT Tryz.prog 89 := ⟨by kernel_rfl⟩
instance : CalT Tryz.prog 90 := ⟨by kernel_rfl⟩
instance : CalT Tryz.prog 91 := ⟨by kernel_rfl⟩
instance : CalT Tryz.prog 92 := ⟨by kernel_rfl⟩
instance : CalT Tryz.prog 93 := ⟨by kernel_rfl⟩
instance : CalT Tryz.prog 94 := ⟨by kernel_rfl⟩
instance : CalT Tryz.prog 95 := ⟨by kernel_rfl⟩
instance : CalT Tryz.prog 96 := ⟨by kernel_rfl⟩
instance : CalT Tryz.prog 97 := ⟨by kernel_rfl⟩
instance : CalT Tryz.prog 98 := ⟨by kernel_rfl⟩
instance : CalT Tryz.prog 99 := ⟨by kernel_rfl⟩
instance : CalT Tryz.prog 100 := ⟨by kernel_rfl⟩
instance : CalT Tryz.prog 101 := ⟨by kernel_rfl⟩
instance : CalT Tryz.prog 102 := ⟨by kernel_rfl⟩
instance : CalT Tryz.prog 103 := ⟨by kernel_rfl⟩
instance : CalT Tryz.prog 104 := ⟨by kernel_rfl⟩
instance : CalT Tryz.prog 105 := ⟨by kernel_rfl⟩
instance : CalT Tryz.prog 106 := ⟨by kernel_rfl⟩
instance : CalT Tryz.prog 107 := ⟨by kernel_rfl⟩
instance : CalT Tryz.prog 108 := ⟨by kernel_rfl⟩
instance : CalT Tryz.prog 109 := ⟨by kernel_rfl⟩
instance : CalT Tryz.prog 110 := ⟨by kernel_rfl⟩
instance : CalT Tryz.prog 111 := ⟨by kernel_rfl⟩
instance : CalT Tryz.prog 112 := ⟨by kernel_rfl⟩
instance : CalT Tryz.prog 113 := ⟨by kernel_rfl⟩
instance : CalT Tryz.prog 114 := ⟨by kernel_rfl⟩
instance : CalT Tryz.prog 115 := ⟨by kernel_rfl⟩
instance : CalT Tryz.prog 116 := ⟨by kernel_rfl⟩
instance : CalT Tryz.prog 117 := ⟨by kernel_rfl⟩
instance : CalT Tryz.prog 118 := ⟨by kernel_rfl⟩
instance : CalT Tryz.prog 119 := ⟨by kernel_rfl⟩
instance : CalT Tryz.prog 120 := ⟨by kernel_rfl⟩
instance : CalT Tryz.prog 121 := ⟨by kernel_rfl⟩
instance : CalT Tryz.prog 122 := ⟨by kernel_rfl⟩
instance : CalT Tryz.prog 123 := ⟨by kernel_rfl⟩
instance : CalT Tryz.prog 124 := ⟨by kernel_rfl⟩
instance : CalT Tryz.prog 125 := ⟨by kernel_rfl⟩
instance : CalT Tryz.prog 126 := ⟨by kernel_rfl⟩
instance : CalT Tryz.prog 127 := ⟨by kernel_rfl⟩
instance : CalT Tryz.prog 128 := ⟨by kernel_rfl⟩
instance : CalT Tryz.prog 129 := ⟨by kernel_rfl⟩
instance : CalT Tryz.prog 130 := ⟨by kernel_rfl⟩
instance : CalT Tryz.prog 131 := ⟨by kernel_rfl⟩
instance : CalT Tryz.prog 132 := ⟨by kernel_rfl⟩
instance : CalT Tryz.prog 133 := ⟨by kernel_rfl⟩
instance : CalT Tryz.prog 134 := ⟨by kernel_rfl⟩
instance : CalT Tryz.prog 135 := ⟨by kernel_rfl⟩
instance : CalT Tryz.prog 136 := ⟨by kernel_rfl⟩
instance : CalT Tryz.prog 137 := ⟨by kernel_rfl⟩
instance : CalT Tryz.prog 138 := ⟨by kernel_rfl⟩
instance : CalT Tryz.prog 139 := ⟨by kernel_rfl⟩
instance : CalT Tryz.prog 140 := ⟨by kernel_rfl⟩
instance : CalT Tryz.prog 141 := ⟨by kernel_rfl⟩
instance : CalT Tryz.prog 142 := ⟨by kernel_rfl⟩
instance : CalT Tryz.prog 143 := ⟨by kernel_rfl⟩
instance : CalT Tryz.prog 144 := ⟨by kernel_rfl⟩
instance : CalT Tryz.prog 145 := ⟨by kernel_rfl⟩
instance : CalT Tryz.prog 146 := ⟨by kernel_rfl⟩
instance : CalT Tryz.prog 147 := ⟨by kernel_rfl⟩
instance : CalT Tryz.prog 148 := ⟨by kernel_rfl⟩
instance : CalT Tryz.prog 149 := ⟨by kernel_rfl⟩
instance : CalT Tryz.prog 150 := ⟨by kernel_rfl⟩
instance : CalT Tryz.prog 151 := ⟨by kernel_rfl⟩
instance : CalT Tryz.prog 152 := ⟨by kernel_rfl⟩
instance : CalT Tryz.prog 153 := ⟨by kernel_rfl⟩
instance : CalT Tryz.prog 154 := ⟨by kernel_rfl⟩
instance : CalT Tryz.prog 155 := ⟨by kernel_rfl⟩
instance : CalT Tryz.prog 156 := ⟨by kernel_rfl⟩
instance : CalT Tryz.prog 157 := ⟨by kernel_rfl⟩
instance : CalT Tryz.prog 158 := ⟨by kernel_rfl⟩
instance : CalT Tryz.prog 159 := ⟨by kernel_rfl⟩
instance : CalT Tryz.prog 160 := ⟨by kernel_rfl⟩
instance : CalT Tryz.prog 161 := ⟨by kernel_rfl⟩
instance : CalT Tryz.prog 162 := ⟨by kernel_rfl⟩
instance : CalT Tryz.prog 163 := ⟨by kernel_rfl⟩
instance : CalT Tryz.prog 164 := ⟨by kernel_rfl⟩
instance : CalT Tryz.prog 165 := ⟨by kernel_rfl⟩
instance : CalT Tryz.prog 166 := ⟨by kernel_rfl⟩
instance : CalT Tryz.prog 167 := ⟨by kernel_rfl⟩
instance : CalT Tryz.prog 168 := ⟨by kernel_rfl⟩
instance : CalT Tryz.prog 169 := ⟨by kernel_rfl⟩
instance : CalT Tryz.prog 170 := ⟨by kernel_rfl⟩
instance : CalT Tryz.prog 171 := ⟨by kernel_rfl⟩
instance : CalT Tryz.prog 172 := ⟨by kernel_rfl⟩
instance : CalT Tryz.prog 173 := ⟨by kernel_rfl⟩
instance : CalT Tryz.prog 174 := ⟨by kernel_rfl⟩
instance : CalT Tryz.prog 175 := ⟨by kernel_rfl⟩
end Go.Proofs.YtkoncepjfgnjlaaGreat
/- Short names for what is searched at each step. No program stands in this text. -/
namespace Go.Proofs.YtkoncepjfgnjlaaGreat
open Go.RowKit
set_option linter.unusedVariables false
attribute [local irreducible] sat

theorem LdA {L : List HP} {a : Addr} {v : Value} (h : Ld L a v := by repeat' first | exact Ld.blk rfl | assumption | apply Ld.skip | apply Ld.app) : Ld L a v := h
theorem LnA {L : List HP} {b o n : Nat} {vs : List Value} (h : LdN L b o n vs := by repeat' first | exact LdN.blk rfl | assumption | apply LdN.skip | apply LdN.app) : LdN L b o n vs := h
theorem UpA {b i : Nat} {vs : List Value} {L L' : List HP} (h : Upd b i vs L L' := by repeat' first | exact Upd.here rfl | apply Upd.skip | apply Upd.app) : Upd b i vs L L' := h
theorem NgA {p : Prop} (h : p := by first | omega | (simp; done) | (simp; omega)) : p := h
theorem PkA {X : HP} {L L' : List HP} (h : Pick X L L' := by repeat' first | exact Pick.here | apply Pick.skip | apply Pick.app) : Pick X L L' := h
theorem RdA {α : Type} [Enc α] {L : List HP} {A : Option Addr} {n : Nat} {l : List α} (h : Rd L A n l := by repeat' first | exact Rc.blk rfl | assumption | apply Rd.skip | apply Rd.app) : Rd L A n l := h
theorem EnA {L M : List HP} (h : ∀ h, sat L h → sat M h := by (repeat first | exact fun _ s => s | apply en_keep | apply en_drop | apply en_app) <;> fail) : ∀ h, sat L h → sat M h := h
theorem EpA {L M : List HP} (h : ∀ h, sat L h → sat M h := by (repeat first | exact en_refl | (apply en_blk; focus ((repeat' first | exact Pick.here | apply Pick.skip | apply Pick.app); done); focus rfl) | (apply en_own; focus ((repeat' first | exact Pick.here | apply Pick.skip | apply Pick.app); done); focus rfl) | (apply en_pick; focus ((repeat' first | exact Pick.here | apply Pick.skip | apply Pick.app); done)) | apply en_drop | apply en_app) <;> fail) : ∀ h, sat L h → sat M h := h
theorem ExA {L M : List HP} (h : ∀ h, sat L h → sat M h := by first | exact EnA | exact EpA) : ∀ h, sat L h → sat M h := h
/-- What comes next, brought to the front. -/
def normK : Nat → List Kt → List Kt
  | n + 1, .code (.seq x y) :: K => normK n (.code x :: .code y :: K)
  | n + 1, .code .skip :: K => normK n K
  | n + 1, .blk _ :: K => normK n K
  | n + 1, .code (.block id c) :: K => normK n (.code c :: .blk id :: K)
  | n + 1, .code (.exit id) :: K => match unw id K with
    | some K' => normK n K'
    | none => .code (.exit id) :: K
  | _, K => K
section
variable {P : Program} {B : Exit → Act → World → Prop} {g : Glob} {n : Nat} {K : List Kt} {σ : Env} {L S : List HP} {ops : Array Oper} {l lo : List Oper} {s : Scr}
theorem G_norm : ∀ (m : Nat) (K : List Kt), G P B g n (normK m K) σ L → G P B g n K σ L
  | 0, K, h => by
    have e : normK 0 K = K := by unfold normK; rfl
    rwa [e] at h
  | m + 1, [], h => h
  | m + 1, .inv I :: K, h => h
  | m + 1, .blk i :: K, h => G_endblk (G_norm m K h)
  | m + 1, .code c :: K, h => by
    cases c with
    | seq x y => exact G_seq (G_norm m _ h)
    | skip => exact G_skip (G_norm m _ h)
    | block id c => exact G_block (G_norm m _ h)
    | exit id =>
      unfold normK at h
      split at h
      · rename_i e
        exact G_exit e (G_norm m _ h)
      · exact h
    | _ => exact h
theorem GN {K' : List Kt} (h : G P B g n K' σ L) (e : normK 60 K = K' := by rfl) : G P B g n K σ L := G_norm 60 K (e ▸ h)
theorem GQ {o : Oper} {v : Value} (he : Ev P L σ o v) (h : GO P B g n ops l K (putE σ o.dst v) L) (hg : o.guard = none := by rfl) (hd : dstOk n o.dst = true := by rfl) : GO P B g n ops (o :: l) K σ L := GO_q hg hd he h
theorem GE {o : Oper} {post : Value → List HP → Prop} (he : Eff P g L σ o post) (h : ∀ v L', post v L' → GO P B g n ops l K (putE σ o.dst v) L') (hg : o.guard = none := by rfl) (hd : dstOk n o.dst = true := by rfl) : GO P B g n ops (o :: l) K σ L := GO_eff hg hd he h
theorem RQ {fn : Func} {g0 : Glob} {F : HP} {post : Value → List HP → Prop} {i : Nat} {o : Oper} {v : Value} (hi : lo[i]? = some o) (he : Ev P S σ o v) (h : RS P (retB P fn g0 F post) g n lo S s K (putE σ o.dst v) L) (hm : mvO o = false := by rfl) (hg : o.guard = none := by rfl) (hd : dstOk n o.dst = true := by rfl) : RS P (retB P fn g0 F post) g n lo S (.q i s) K σ L := RS_q retB_noPanic hi hm hg hd he h
theorem RM {fn : Func} {g0 : Glob} {F : HP} {post : Value → List HP → Prop} {i : Nat} {o : Oper} {v : Value} (hi : lo[i]? = some o) (he : Ev P [] σ o v) (h : RS P (retB P fn g0 F post) g n lo S s K (putE σ o.dst v) L) (hm : mvO o = true := by rfl) (hg : o.guard = none := by rfl) (hd : dstOk n o.dst = true := by rfl) : RS P (retB P fn g0 F post) g n lo S (.q i s) K σ L := RS_m retB_noPanic hi hm hg hd he h
end
end Go.Proofs.YtkoncepjfgnjlaaGreat
/- The references' lists of numbers. -/
namespace Go.Proofs.YtkoncepjfgnjlaaGreat
attribute [local irreducible] sat
set_option linter.unusedVariables false
set_option linter.unusedSimpArgs false
set_option maxRecDepth 100000

theorem Same_ctr (A B : Option Addr) (n m c d : Nat) (l q : List Int) (L : List HP) (hl : Rd L A n l) (hq : Rd L B m q) (hn : n ≤ 9223372036854775807) :
    Ctr Tryz.prog 15 #[.slice A n c, .slice B m d] L fun v L' => v = .bool (decide (l = q)) ∧ L' = L := by
  have h1 : l.length = n := hl.len (by decide)
  have h2 : q.length = m := hq.len (by decide)
  refine Ctr_of (fn := Tryz.f15) (n := 26) Tryz.func15 rfl rfl rfl ?_
  intro g F
  refine GN ?_
  refine G_region ?_
  refine GQ (ev_assign rfl) ?_
  refine GO_nil ?_
  refine GN ?_
  refine G_region ?_
  refine GQ (ev_move rfl) ?_
  refine GQ (ev_len rfl) ?_
  refine GQ (ev_move rfl) ?_
  refine GQ (ev_len rfl) ?_
  refine GQ (ev_neq rfl rfl) ?_
  refine GO_nil ?_
  refine GN ?_
  refine G_cond rfl (fun h3 => ?_) (fun h3 => ?_)
  · refine GN ?_
    refine G_region ?_
    refine GQ (ev_assign rfl) ?_
    refine GO_nil ?_
    refine GN ?_
    refine G_ret rfl (.tmp rfl .nil) EnA ⟨by simp [retv]; intro h; subst h; omega, rfl⟩
  · have e : n = m := by omega
    subst e
    refine GN ?_
    refine G_region ?_
    refine GQ (ev_assign rfl) ?_
    refine GO_nil ?_
    refine GN ?_
    refine G_loop (ι := Nat) (fun k => [(0, .slice A n c), (1, .slice B n d), (5, .int .i64 (k : Nat))]) (fun _ => F :: L) (fun k => k ≤ n ∧ l.take k = q.take k) (fun k => n - k) 0 ⟨Nat.zero_le _, rfl⟩ ⟨rfl, rfl, rfl, trivial⟩ EnA ?_
    rintro k ⟨hk, ht⟩
    refine GN ?_
    refine G_region ?_
    refine GQ (ev_move rfl) ?_
    refine GQ (ev_move rfl) ?_
    refine GQ (ev_len rfl) ?_
    (first | refine GQ (ev_lssN rfl rfl) ?_ | refine GQ (ev_lss rfl rfl) ?_)
    refine GO_nil ?_
    refine GN ?_
    refine G_cond rfl (fun h4 => ?_) (fun h4 => ?_)
    · obtain ⟨b1, o1, rfl, x1⟩ := hl.at_ (by omega)
      obtain ⟨b2, o2, rfl, x2⟩ := hq.at_ (by omega)
      have g1 : l[k]? = some l[k] := List.getElem?_eq_getElem (by omega)
      have g2 : q[k]? = some q[k] := List.getElem?_eq_getElem (by omega)
      have y1 := (x1 _ _ g1).at_ (i := 0) rfl
      have y2 := (x2 _ _ g2).at_ (i := 0) rfl
      have s1 : l.take (k + 1) = l.take k ++ [l[k]] := List.take_succ_eq_append_getElem (by omega)
      have s2 : q.take (k + 1) = q.take k ++ [q[k]] := List.take_succ_eq_append_getElem (by omega)
      generalize l[k] = u at *
      generalize q[k] = v at *
      have z1 : Ld L ⟨b1, o1 + k * 1, none⟩ (.int .i64 u) := y1
      have z2 : Ld L ⟨b2, o2 + k * 1, none⟩ (.int .i64 v) := y2
      refine GN ?_
      refine G_draw (.q 0 (.q 1 (.q 2 (.q 3 (.q 4 (.q 5 (.q 6 (.q 7 (.q 8 .nil))))))))) (by kernel_rfl) (by kernel_rfl) ?_
      refine RM rfl (ev_move rfl) ?_
      refine RM rfl (ev_move rfl) ?_
      (first | refine RM rfl (ev_indexAddrN rfl rfl NgA) ?_ | refine RM rfl (ev_indexAddr rfl rfl NgA NgA) ?_)
      refine RQ rfl (ev_load rfl LdA) ?_
      refine RM rfl (ev_move rfl) ?_
      refine RM rfl (ev_move rfl) ?_
      (first | refine RM rfl (ev_indexAddrN rfl rfl NgA) ?_ | refine RM rfl (ev_indexAddr rfl rfl NgA NgA) ?_)
      refine RQ rfl (ev_load rfl LdA) ?_
      refine RM rfl (ev_neq rfl rfl) ?_
      refine RS_nil ?_
      refine GN ?_
      refine G_cond rfl (fun h5 => ?_) (fun h5 => ?_)
      · refine GN ?_
        refine G_region ?_
        refine GQ (ev_assign rfl) ?_
        refine GO_nil ?_
        refine GN ?_
        refine G_ret rfl (.tmp rfl .nil) EnA ⟨by simp [retv]; intro h; subst h; exact h5 (by rw [g1] at g2; exact Option.some.inj g2), rfl⟩
      · have e : u = v := by omega
        refine GN ?_
        refine G_region ?_
        refine GQ (ev_move rfl) ?_
        (first | refine GQ (ev_addN (q := 1) rfl rfl NgA) ?_ | refine GQ (ev_add rfl rfl NgA) ?_)
        refine GQ (ev_assign rfl) ?_
        refine GO_nil ?_
        refine GN ?_
        exact G_round (k + 1) ⟨by omega, by rw [s1, s2, ht, e]⟩ (by omega) ⟨rfl, rfl, rfl, trivial⟩ EnA
    · have e : k = n := by omega
      subst e
      have : l = q := by rwa [List.take_of_length_le (by omega), List.take_of_length_le (by omega)] at ht
      refine GN ?_
      refine G_region ?_
      refine GQ (ev_assign rfl) ?_
      refine GO_nil ?_
      refine GN ?_
      refine G_ret rfl (.tmp rfl .nil) EnA ⟨by simp [retv, this], rfl⟩

/-- A number put in, behind those that are not greater. -/
def ins (x : Int) (l : List Int) : List Int := l.takeWhile (fun y => decide (y ≤ x)) ++ x :: l.dropWhile (fun y => decide (y ≤ x))
def rising (l : List Int) : List Int := l.foldl (fun o x => ins x o) []
theorem ins_length (x : Int) (l : List Int) : (ins x l).length = l.length + 1 := by
  unfold ins
  have := congrArg List.length (List.takeWhile_append_dropWhile (p := fun y => decide (y ≤ x)) (l := l))
  rw [List.length_append] at this
  rw [List.length_append, List.length_cons]
  omega
theorem ins_at (x : Int) (l : List Int) (k : Nat) (hk : k = (l.takeWhile (fun y => decide (y ≤ x))).length) : ins x l = l.take k ++ [x] ++ l.drop k := by
  have h := List.takeWhile_append_dropWhile (p := fun y => decide (y ≤ x)) (l := l)
  have h1 : l.take k = l.takeWhile (fun y => decide (y ≤ x)) := by
    conv => lhs; rw [← h]
    rw [hk, List.take_left]
  have h2 : l.drop k = l.dropWhile (fun y => decide (y ≤ x)) := by
    conv => lhs; rw [← h]
    rw [hk, List.drop_left]
  rw [h1, h2]
  simp [ins]
theorem tw_lt {p : Int → Bool} : ∀ {l : List Int} {k : Nat}, k < (l.takeWhile p).length → ∃ v, l[k]? = some v ∧ p v = true
  | [], k, h => by simp at h
  | a :: l, k, h => by
    rw [List.takeWhile_cons] at h
    cases ha : p a with
    | false => rw [ha] at h; simp at h
    | true =>
      rw [ha] at h
      cases k with
      | zero => exact ⟨a, rfl, ha⟩
      | succ k =>
        obtain ⟨v, h1, h2⟩ := tw_lt (l := l) (k := k) (by simpa using h)
        exact ⟨v, by simpa using h1, h2⟩
theorem tw_at {p : Int → Bool} : ∀ {l : List Int} {v : Int}, l[(l.takeWhile p).length]? = some v → p v = false
  | [], v, h => by simp at h
  | a :: l, v, h => by
    cases ha : p a with
    | false =>
      rw [List.takeWhile_cons, ha] at h
      simp at h; subst h; exact ha
    | true =>
      rw [List.takeWhile_cons, ha] at h
      exact tw_at (l := l) (by simpa using h)
theorem Rising_ctr (A : Option Addr) (n c : Nat) (l : List Int) (L : List HP) (hl : Rd L A n l) (hn : n ≤ 100000) :
    Ctr Tryz.prog 47 #[.slice A n c] L fun v L' => ∃ A' c' N, v = .slice A' (rising l).length c' ∧ (rising l).length ≤ c' ∧ c' ≤ maxLen ∧ L' = N ++ L ∧ Rd (N ++ L) A' (rising l).length (rising l) := by
  have h1 : l.length = n := hl.len (by decide)
  refine Ctr_of (fn := Tryz.f47) (n := 46) Tryz.func47 rfl rfl rfl ?_
  intro g F
  refine GN ?_
  refine G_region ?_
  refine GQ (ev_assign rfl) ?_
  refine GO_nil ?_
  refine GN ?_
  refine G_region ?_
  refine GE eff_buildSlice0 ?_; rintro _ _ ⟨b6, rfl, rfl⟩
  refine GQ (ev_assign rfl) ?_
  refine GO_nil ?_
  refine GN ?_
  refine G_region ?_
  refine GQ (ev_assign rfl) ?_
  refine GO_nil ?_
  refine GN ?_
  refine G_loop (ι := Nat × Nat × Nat × List Int) (fun x => [(0, .slice A n c), (3, .slice (some ⟨x.2.1, 0, none⟩) x.2.2.2.length x.2.2.1), (4, .int .i64 (x.1 : Nat))]) (fun x => own 3 1 (some ⟨x.2.1, 0, none⟩) x.2.2.2.length x.2.2.1 (flat x.2.2.2) :: F :: L)
    (fun x => x.1 ≤ n ∧ x.2.2.2 = rising (l.take x.1) ∧ x.2.2.2.length = x.1 ∧ x.2.2.2.length ≤ x.2.2.1 ∧ x.2.2.1 ≤ maxLen) (fun x => n - x.1) (0, b6, 0, []) ⟨Nat.zero_le _, by simp [rising], rfl, Nat.le_refl _, Nat.zero_le _⟩ ⟨rfl, rfl, rfl, trivial⟩ EnA ?_
  rintro ⟨i, b, d, out⟩ ⟨f1, f2, f3, f4, f5⟩
  simp only at f1 f2 f3 f4 f5
  dsimp only
  have f6 := f5
  unfold maxLen at f6
  refine GN ?_
  refine G_region ?_
  refine GQ (ev_move rfl) ?_
  refine GQ (ev_move rfl) ?_
  refine GQ (ev_len rfl) ?_
  (first | refine GQ (ev_lssN rfl rfl) ?_ | refine GQ (ev_lss rfl rfl) ?_)
  refine GO_nil ?_
  refine GN ?_
  refine G_cond rfl (fun c1 => ?_) (fun c1 => ?_)
  · obtain ⟨lb, lo, rfl, hx⟩ := hl.at_ (by omega)
    have hg : l[i]? = some l[i] := List.getElem?_eq_getElem (by omega)
    have hs : rising (l.take (i + 1)) = ins l[i] (rising (l.take i)) := by
      unfold rising; rw [List.take_succ_eq_append_getElem (by omega), List.foldl_append]; rfl
    have y1 := (hx _ _ hg).at_ (i := 0) rfl
    generalize l[i] = x at *
    have y2 : Ld L ⟨lb, lo + i * 1, none⟩ (.int .i64 x) := y1
    obtain ⟨w, hw⟩ : ∃ w, w = (out.takeWhile (fun y => decide (y ≤ x))).length := ⟨_, rfl⟩
    have hwl : w ≤ out.length := by rw [hw]; exact (List.takeWhile_prefix _).length_le
    have hin := ins_at x out w hw
    have hout : Rd (own 3 1 (some ⟨b, 0, none⟩) out.length d (flat out) :: F :: L) (some ⟨b, 0, none⟩) out.length out := Rc.own (flat_length out) (fun _ => ⟨b, rfl⟩)
    refine GN ?_
    refine G_region ?_
    refine GQ (ev_assign rfl) ?_
    refine GO_nil ?_
    refine GN ?_
    refine G_loop (ι := Nat) (fun k => [(0, .slice (some ⟨lb, lo, none⟩) n c), (3, .slice (some ⟨b, 0, none⟩) out.length d), (4, .int .i64 (i : Nat)), (5, .int .i64 (k : Nat))]) (fun _ => own 3 1 (some ⟨b, 0, none⟩) out.length d (flat out) :: F :: L) (fun k => k ≤ w) (fun k => w - k) 0 (Nat.zero_le _) ⟨rfl, rfl, rfl, rfl, trivial⟩ (fun _ s => s) ?_
    intro k hk
    by_cases hko : k < out.length
    · obtain ⟨_, _, e9, hx2⟩ := hout.at_ (by omega)
      cases e9
      have hg2 : out[k]? = some out[k] := List.getElem?_eq_getElem hko
      have y3 := (hx2 _ _ hg2).at_ (i := 0) rfl
      have q1 : k < w → out[k] ≤ x := fun h => by
        obtain ⟨v, a1, a2⟩ := tw_lt (l := out) (k := k) (by rw [← hw]; exact h)
        rw [hg2] at a1; cases a1; simpa using a2
      have q2 : k = w → ¬ out[k] ≤ x := fun h => by
        have := tw_at (p := fun y => decide (y ≤ x)) (l := out) (v := out[k]) (by rw [← hw, ← h]; exact hg2)
        simpa using this
      generalize out[k] = u at *
      have y4 : Ld (own 3 1 (some ⟨b, 0, none⟩) out.length d (flat out) :: F :: L) ⟨b, 0 + k * 1, none⟩ (.int .i64 u) := y3
      have y5 : Ld (own 3 1 (some ⟨b, 0, none⟩) out.length d (flat out) :: F :: L) ⟨lb, lo + i * 1, none⟩ (.int .i64 x) := y2.skip.skip
      refine GN ?_
      refine G_draw (.q 0 (.q 1 (.q 2 (.q 3 (.q 4 (.q 5 (.q 6 (.q 7 (.q 8 (.q 9 (.q 10 (.q 11 (.q 12 (.q 13 (.q 14 .nil))))))))))))))) (by kernel_rfl) (by kernel_rfl) ?_
      refine RM rfl (ev_move rfl) ?_
      refine RM rfl (ev_move rfl) ?_
      refine RQ rfl (ev_len rfl) ?_
      (first | refine RM rfl (ev_lssN rfl rfl) ?_ | refine RM rfl (ev_lss rfl rfl) ?_)
      refine RM rfl (ev_move rfl) ?_
      refine RS_m_yes retB_noPanic rfl rfl rfl rfl ⟨_, rfl, (decide_eq_true hko)⟩ rfl (ev_move rfl) ?_
      refine RS_m_yes retB_noPanic rfl rfl rfl rfl ⟨_, rfl, (decide_eq_true hko)⟩ rfl (ev_move rfl) ?_
      (first | refine RS_m_yes retB_noPanic rfl rfl rfl rfl ⟨_, rfl, (decide_eq_true hko)⟩ rfl (ev_indexAddrN rfl rfl NgA) ?_ | refine RS_m_yes retB_noPanic rfl rfl rfl rfl ⟨_, rfl, (decide_eq_true hko)⟩ rfl (ev_indexAddr rfl rfl NgA NgA) ?_)
      refine RS_q_yes retB_noPanic rfl rfl rfl rfl ⟨_, rfl, (decide_eq_true hko)⟩ rfl (ev_load rfl LdA) ?_
      refine RS_m_yes retB_noPanic rfl rfl rfl rfl ⟨_, rfl, (decide_eq_true hko)⟩ rfl (ev_move rfl) ?_
      refine RS_m_yes retB_noPanic rfl rfl rfl rfl ⟨_, rfl, (decide_eq_true hko)⟩ rfl (ev_move rfl) ?_
      (first | refine RS_m_yes retB_noPanic rfl rfl rfl rfl ⟨_, rfl, (decide_eq_true hko)⟩ rfl (ev_indexAddrN rfl rfl NgA) ?_ | refine RS_m_yes retB_noPanic rfl rfl rfl rfl ⟨_, rfl, (decide_eq_true hko)⟩ rfl (ev_indexAddr rfl rfl NgA NgA) ?_)
      refine RS_q_yes retB_noPanic rfl rfl rfl rfl ⟨_, rfl, (decide_eq_true hko)⟩ rfl (ev_load rfl LdA) ?_
      refine RS_m_yes retB_noPanic rfl rfl rfl rfl ⟨_, rfl, (decide_eq_true hko)⟩ rfl (ev_leq rfl rfl) ?_
      refine RM rfl (ev_pick_t rfl (decide_eq_true hko) rfl) ?_
      refine RS_nil ?_
      refine GN ?_
      refine G_cond rfl (fun c2 => ?_) (fun c2 => ?_)
      · refine GN ?_
        refine G_region ?_
        refine GQ (ev_move rfl) ?_
        (first | refine GQ (ev_addN (q := 1) rfl rfl NgA) ?_ | refine GQ (ev_add rfl rfl NgA) ?_)
        refine GQ (ev_assign rfl) ?_
        refine GO_nil ?_
        refine GN ?_
        exact G_round (k + 1) (by
          rcases Nat.lt_or_ge k w with h | h
          · exact h
          · exact absurd c2 (q2 (by omega))) (by
          rcases Nat.lt_or_ge k w with h | h
          · omega
          · exact absurd c2 (q2 (by omega))) ⟨rfl, rfl, rfl, rfl, trivial⟩ (fun _ s => s)
      · have e : k = w := by
          rcases Nat.lt_or_ge k w with h | h
          · exact absurd (q1 h) c2
          · omega
        subst e
        refine GN ?_
        have m1 : Rc (own 3 1 (some ⟨b, 0, none⟩) out.length d (flat out) :: F :: L) 1 (some ⟨b, 0, none⟩) k (flat (out.take k)) := hout.take hwl
        have m2 : Rc (own 3 1 (some ⟨b, 0, none⟩) out.length d (flat out) :: F :: L) 1 (some ⟨b, (if d = k then 0 else 0 + k * 1), none⟩) (out.length - k) (flat (out.drop k)) := hout.drop hwl f4
        have y6 : Ld (own 3 1 (some ⟨b, 0, none⟩) out.length d (flat out) :: F :: L) ⟨lb, lo + i * 1, none⟩ (.int .i64 x) := y2.skip.skip
        have nn : 0 + k + 1 + (out.length - k) = (ins x out).length := by rw [ins_length]; omega
        have n2 : (ins x out).length = i + 1 := by rw [ins_length]; omega
        refine GN ?_
        refine G_draw (.q 1 (.q 2 (.q 3 (.q 5 (.q 6 (.q 7 (.q 8 (.q 11 (.q 12 (.q 13 (.br 0 (.br 4 (.e 9 (.e 10 (.e 14 (.q 15 .nil)))) 9 (.e 4 (.e 10 (.e 14 (.q 15 .nil))))) 9 (.e 0 (.e 4 (.e 10 (.e 14 (.q 15 .nil)))))))))))))))) (by kernel_rfl) (by kernel_rfl) ?_
        refine RM rfl (ev_move rfl) ?_
        refine RM rfl (ev_move rfl) ?_
        refine RQ rfl (ev_sliceH rfl rfl NgA) ?_
        refine RM rfl (ev_move rfl) ?_
        refine RM rfl (ev_move rfl) ?_
        (first | refine RM rfl (ev_indexAddrN rfl rfl NgA) ?_ | refine RM rfl (ev_indexAddr rfl rfl NgA NgA) ?_)
        refine RQ rfl (ev_load rfl LdA) ?_
        refine RM rfl (ev_move rfl) ?_
        refine RM rfl (ev_move rfl) ?_
        refine RQ rfl (ev_sliceL rfl rfl NgA NgA) ?_
        refine RS_br ?x1_0 ?x1_1
        case' x1_1 =>
          refine RE_eff rfl rfl rfl (eff_buildSlice1 (by rfl) rfl rfl) ?_; rintro _ _ ⟨b39, rfl, rfl⟩; refine ⟨_, ExA, fun _ s => s, ?_⟩
          refine RS_e (RE_eff rfl rfl rfl eff_buildSlice0 ?_); rintro _ _ ⟨b30, rfl, rfl⟩; refine ⟨_, ExA, fun _ s => s, ?_⟩
          refine RS_e (RE_eff rfl rfl rfl (eff_append rfl rfl PkA ((by repeat' first | assumption | apply Rc.skip)) ((flat_one _)) (by rfl) (by decide) NgA NgA) ?_); rintro _ _ ⟨A34, c34, rfl, hc34, hm34, hn34, rfl⟩; refine ⟨_, ExA, fun _ s => s, ?_⟩
          refine RS_e (RE_eff rfl rfl rfl (eff_append rfl rfl PkA (by repeat' first | exact Rc.blk rfl | assumption | apply Rc.skip) (one_all rfl) (by rfl) (by decide) NgA NgA) ?_); rintro _ _ ⟨A40, c40, rfl, hc40, hm40, hn40, rfl⟩; refine ⟨_, ExA, fun _ s => s, ?_⟩
          refine RS_e (RE_eff rfl rfl rfl (eff_append rfl rfl PkA ((by repeat' first | assumption | apply Rc.skip)) ((flat_one _)) (by rfl) (by decide) NgA NgA) ?_); rintro _ _ ⟨A44, c44, rfl, hc44, hm44, hn44, rfl⟩; refine ⟨_, ExA, fun _ s => s, ?_⟩
          refine RM rfl (ev_assign rfl) ?_
          refine RS_nil ?_
        case' x1_0 =>
          refine RE_eff rfl rfl rfl eff_buildSlice0 ?_; rintro _ _ ⟨b30, rfl, rfl⟩; refine ⟨_, ExA, fun _ s => s, ?_⟩
          refine RS_br ?x2_0 ?x2_1
          case' x2_1 =>
            refine RE_eff rfl rfl rfl (eff_buildSlice1 (by rfl) rfl rfl) ?_; rintro _ _ ⟨b39, rfl, rfl⟩; refine ⟨_, ExA, fun _ s => s, ?_⟩
            refine RS_e (RE_eff rfl rfl rfl (eff_append rfl rfl PkA ((by repeat' first | assumption | apply Rc.skip)) ((flat_one _)) (by rfl) (by decide) NgA NgA) ?_); rintro _ _ ⟨A34, c34, rfl, hc34, hm34, hn34, rfl⟩; refine ⟨_, ExA, fun _ s => s, ?_⟩
            refine RS_e (RE_eff rfl rfl rfl (eff_append rfl rfl PkA (by repeat' first | exact Rc.blk rfl | assumption | apply Rc.skip) (one_all rfl) (by rfl) (by decide) NgA NgA) ?_); rintro _ _ ⟨A40, c40, rfl, hc40, hm40, hn40, rfl⟩; refine ⟨_, ExA, fun _ s => s, ?_⟩
            refine RS_e (RE_eff rfl rfl rfl (eff_append rfl rfl PkA ((by repeat' first | assumption | apply Rc.skip)) ((flat_one _)) (by rfl) (by decide) NgA NgA) ?_); rintro _ _ ⟨A44, c44, rfl, hc44, hm44, hn44, rfl⟩; refine ⟨_, ExA, fun _ s => s, ?_⟩
            refine RM rfl (ev_assign rfl) ?_
            refine RS_nil ?_
          case' x2_0 =>
            refine RE_eff rfl rfl rfl (eff_append rfl rfl PkA ((by repeat' first | assumption | apply Rc.skip)) ((flat_one _)) (by rfl) (by decide) NgA NgA) ?_; rintro _ _ ⟨A34, c34, rfl, hc34, hm34, hn34, rfl⟩; refine ⟨_, ExA, fun _ s => s, ?_⟩
            refine RS_e (RE_eff rfl rfl rfl (eff_buildSlice1 (by rfl) rfl rfl) ?_); rintro _ _ ⟨b39, rfl, rfl⟩; refine ⟨_, ExA, fun _ s => s, ?_⟩
            refine RS_e (RE_eff rfl rfl rfl (eff_append rfl rfl PkA (by repeat' first | exact Rc.blk rfl | assumption | apply Rc.skip) (one_all rfl) (by rfl) (by decide) NgA NgA) ?_); rintro _ _ ⟨A40, c40, rfl, hc40, hm40, hn40, rfl⟩; refine ⟨_, ExA, fun _ s => s, ?_⟩
            refine RS_e (RE_eff rfl rfl rfl (eff_append rfl rfl PkA ((by repeat' first | assumption | apply Rc.skip)) ((flat_one _)) (by rfl) (by decide) NgA NgA) ?_); rintro _ _ ⟨A44, c44, rfl, hc44, hm44, hn44, rfl⟩; refine ⟨_, ExA, fun _ s => s, ?_⟩
            refine RM rfl (ev_assign rfl) ?_
            refine RS_nil ?_
        all_goals
          obtain ⟨b9, rfl⟩ := hn44 (by omega)
          rw [nn]
          rw [nn] at hc44
          refine GN ?_
          refine G_region ?_
          refine GQ (ev_move rfl) ?_
          (first | refine GQ (ev_addN (q := 1) rfl rfl NgA) ?_ | refine GQ (ev_add rfl rfl NgA) ?_)
          refine GQ (ev_assign rfl) ?_
          refine GO_nil ?_
          refine GN ?_
          refine G_round (i + 1, b9, c44, ins x out) ⟨by simp only; omega, by simp only; rw [hs, ← f2], n2, hc44, hm44⟩ (by simp only; omega) ⟨rfl, rfl, rfl, trivial⟩ ?_
          refine en_own .here ?_ EnA
          rw [hin, flat_append, flat_append]
          rfl
    · have e : k = w := by omega
      subst e
      have hd9 : ¬ (k < out.length) := hko
      refine GN ?_
      refine G_draw (.q 0 (.q 1 (.q 2 (.q 3 (.q 4 (.q 5 (.q 6 (.q 7 (.q 8 (.q 9 (.q 10 (.q 11 (.q 12 (.q 13 (.q 14 .nil))))))))))))))) (by kernel_rfl) (by kernel_rfl) ?_
      refine RM rfl (ev_move rfl) ?_
      refine RM rfl (ev_move rfl) ?_
      refine RQ rfl (ev_len rfl) ?_
      (first | refine RM rfl (ev_lssN rfl rfl) ?_ | refine RM rfl (ev_lss rfl rfl) ?_)
      refine RM rfl (ev_move rfl) ?_
      refine RS_q_no retB_noPanic rfl rfl rfl ⟨_, rfl, (decide_eq_false hd9)⟩ rfl ?_
      refine RS_q_no retB_noPanic rfl rfl rfl ⟨_, rfl, (decide_eq_false hd9)⟩ rfl ?_
      refine RS_q_no retB_noPanic rfl rfl rfl ⟨_, rfl, (decide_eq_false hd9)⟩ rfl ?_
      refine RS_q_no retB_noPanic rfl rfl rfl ⟨_, rfl, (decide_eq_false hd9)⟩ rfl ?_
      refine RS_q_no retB_noPanic rfl rfl rfl ⟨_, rfl, (decide_eq_false hd9)⟩ rfl ?_
      refine RS_q_no retB_noPanic rfl rfl rfl ⟨_, rfl, (decide_eq_false hd9)⟩ rfl ?_
      refine RS_q_no retB_noPanic rfl rfl rfl ⟨_, rfl, (decide_eq_false hd9)⟩ rfl ?_
      refine RS_q_no retB_noPanic rfl rfl rfl ⟨_, rfl, (decide_eq_false hd9)⟩ rfl ?_
      refine RS_q_no retB_noPanic rfl rfl rfl ⟨_, rfl, (decide_eq_false hd9)⟩ rfl ?_
      refine RM rfl (ev_pick_f rfl (decide_eq_false hd9) rfl) ?_
      refine RS_nil ?_
      refine GN ?_
      refine G_cond_f rfl rfl ?_
      have m1 : Rc (own 3 1 (some ⟨b, 0, none⟩) out.length d (flat out) :: F :: L) 1 (some ⟨b, 0, none⟩) k (flat (out.take k)) := hout.take hwl
      have m2 : Rc (own 3 1 (some ⟨b, 0, none⟩) out.length d (flat out) :: F :: L) 1 (some ⟨b, (if d = k then 0 else 0 + k * 1), none⟩) (out.length - k) (flat (out.drop k)) := hout.drop hwl f4
      have y6 : Ld (own 3 1 (some ⟨b, 0, none⟩) out.length d (flat out) :: F :: L) ⟨lb, lo + i * 1, none⟩ (.int .i64 x) := y2.skip.skip
      have nn : 0 + k + 1 + (out.length - k) = (ins x out).length := by rw [ins_length]; omega
      have n2 : (ins x out).length = i + 1 := by rw [ins_length]; omega
      refine GN ?_
      refine G_draw (.q 1 (.q 2 (.q 3 (.q 5 (.q 6 (.q 7 (.q 8 (.q 11 (.q 12 (.q 13 (.br 0 (.br 4 (.e 9 (.e 10 (.e 14 (.q 15 .nil)))) 9 (.e 4 (.e 10 (.e 14 (.q 15 .nil))))) 9 (.e 0 (.e 4 (.e 10 (.e 14 (.q 15 .nil)))))))))))))))) (by kernel_rfl) (by kernel_rfl) ?_
      refine RM rfl (ev_move rfl) ?_
      refine RM rfl (ev_move rfl) ?_
      refine RQ rfl (ev_sliceH rfl rfl NgA) ?_
      refine RM rfl (ev_move rfl) ?_
      refine RM rfl (ev_move rfl) ?_
      (first | refine RM rfl (ev_indexAddrN rfl rfl NgA) ?_ | refine RM rfl (ev_indexAddr rfl rfl NgA NgA) ?_)
      refine RQ rfl (ev_load rfl LdA) ?_
      refine RM rfl (ev_move rfl) ?_
      refine RM rfl (ev_move rfl) ?_
      refine RQ rfl (ev_sliceL rfl rfl NgA NgA) ?_
      refine RS_br ?x3_0 ?x3_1
      case' x3_1 =>
        refine RE_eff rfl rfl rfl (eff_buildSlice1 (by rfl) rfl rfl) ?_; rintro _ _ ⟨b39, rfl, rfl⟩; refine ⟨_, ExA, fun _ s => s, ?_⟩
        refine RS_e (RE_eff rfl rfl rfl eff_buildSlice0 ?_); rintro _ _ ⟨b30, rfl, rfl⟩; refine ⟨_, ExA, fun _ s => s, ?_⟩
        refine RS_e (RE_eff rfl rfl rfl (eff_append rfl rfl PkA ((by repeat' first | assumption | apply Rc.skip)) ((flat_one _)) (by rfl) (by decide) NgA NgA) ?_); rintro _ _ ⟨A34, c34, rfl, hc34, hm34, hn34, rfl⟩; refine ⟨_, ExA, fun _ s => s, ?_⟩
        refine RS_e (RE_eff rfl rfl rfl (eff_append rfl rfl PkA (by repeat' first | exact Rc.blk rfl | assumption | apply Rc.skip) (one_all rfl) (by rfl) (by decide) NgA NgA) ?_); rintro _ _ ⟨A40, c40, rfl, hc40, hm40, hn40, rfl⟩; refine ⟨_, ExA, fun _ s => s, ?_⟩
        refine RS_e (RE_eff rfl rfl rfl (eff_append rfl rfl PkA ((by repeat' first | assumption | apply Rc.skip)) ((flat_one _)) (by rfl) (by decide) NgA NgA) ?_); rintro _ _ ⟨A44, c44, rfl, hc44, hm44, hn44, rfl⟩; refine ⟨_, ExA, fun _ s => s, ?_⟩
        refine RM rfl (ev_assign rfl) ?_
        refine RS_nil ?_
      case' x3_0 =>
        refine RE_eff rfl rfl rfl eff_buildSlice0 ?_; rintro _ _ ⟨b30, rfl, rfl⟩; refine ⟨_, ExA, fun _ s => s, ?_⟩
        refine RS_br ?x4_0 ?x4_1
        case' x4_1 =>
          refine RE_eff rfl rfl rfl (eff_buildSlice1 (by rfl) rfl rfl) ?_; rintro _ _ ⟨b39, rfl, rfl⟩; refine ⟨_, ExA, fun _ s => s, ?_⟩
          refine RS_e (RE_eff rfl rfl rfl (eff_append rfl rfl PkA ((by repeat' first | assumption | apply Rc.skip)) ((flat_one _)) (by rfl) (by decide) NgA NgA) ?_); rintro _ _ ⟨A34, c34, rfl, hc34, hm34, hn34, rfl⟩; refine ⟨_, ExA, fun _ s => s, ?_⟩
          refine RS_e (RE_eff rfl rfl rfl (eff_append rfl rfl PkA (by repeat' first | exact Rc.blk rfl | assumption | apply Rc.skip) (one_all rfl) (by rfl) (by decide) NgA NgA) ?_); rintro _ _ ⟨A40, c40, rfl, hc40, hm40, hn40, rfl⟩; refine ⟨_, ExA, fun _ s => s, ?_⟩
          refine RS_e (RE_eff rfl rfl rfl (eff_append rfl rfl PkA ((by repeat' first | assumption | apply Rc.skip)) ((flat_one _)) (by rfl) (by decide) NgA NgA) ?_); rintro _ _ ⟨A44, c44, rfl, hc44, hm44, hn44, rfl⟩; refine ⟨_, ExA, fun _ s => s, ?_⟩
          refine RM rfl (ev_assign rfl) ?_
          refine RS_nil ?_
        case' x4_0 =>
          refine RE_eff rfl rfl rfl (eff_append rfl rfl PkA ((by repeat' first | assumption | apply Rc.skip)) ((flat_one _)) (by rfl) (by decide) NgA NgA) ?_; rintro _ _ ⟨A34, c34, rfl, hc34, hm34, hn34, rfl⟩; refine ⟨_, ExA, fun _ s => s, ?_⟩
          refine RS_e (RE_eff rfl rfl rfl (eff_buildSlice1 (by rfl) rfl rfl) ?_); rintro _ _ ⟨b39, rfl, rfl⟩; refine ⟨_, ExA, fun _ s => s, ?_⟩
          refine RS_e (RE_eff rfl rfl rfl (eff_append rfl rfl PkA (by repeat' first | exact Rc.blk rfl | assumption | apply Rc.skip) (one_all rfl) (by rfl) (by decide) NgA NgA) ?_); rintro _ _ ⟨A40, c40, rfl, hc40, hm40, hn40, rfl⟩; refine ⟨_, ExA, fun _ s => s, ?_⟩
          refine RS_e (RE_eff rfl rfl rfl (eff_append rfl rfl PkA ((by repeat' first | assumption | apply Rc.skip)) ((flat_one _)) (by rfl) (by decide) NgA NgA) ?_); rintro _ _ ⟨A44, c44, rfl, hc44, hm44, hn44, rfl⟩; refine ⟨_, ExA, fun _ s => s, ?_⟩
          refine RM rfl (ev_assign rfl) ?_
          refine RS_nil ?_
      all_goals
        obtain ⟨b9, rfl⟩ := hn44 (by omega)
        rw [nn]
        rw [nn] at hc44
        refine GN ?_
        refine G_region ?_
        refine GQ (ev_move rfl) ?_
        (first | refine GQ (ev_addN (q := 1) rfl rfl NgA) ?_ | refine GQ (ev_add rfl rfl NgA) ?_)
        refine GQ (ev_assign rfl) ?_
        refine GO_nil ?_
        refine GN ?_
        refine G_round (i + 1, b9, c44, ins x out) ⟨by simp only; omega, by simp only; rw [hs, ← f2], n2, hc44, hm44⟩ (by simp only; omega) ⟨rfl, rfl, rfl, trivial⟩ ?_
        refine en_own .here ?_ EnA
        rw [hin, flat_append, flat_append]
        rfl
  · have e : i = n := by omega
    subst e
    have e2 : out = rising l := by rw [f2, List.take_of_length_le (by omega)]
    subst e2
    refine GN ?_
    refine G_region ?_
    refine GQ (ev_move rfl) ?_
    refine GQ (ev_assign rfl) ?_
    refine GO_nil ?_
    refine GN ?_
    exact G_ret (L' := [own 3 1 (some ⟨b, 0, none⟩) (rising l).length d (flat (rising l))] ++ L) rfl (.tmp rfl .nil) (fun _ s => s.swap) ⟨some ⟨b, 0, none⟩, d, [own 3 1 (some ⟨b, 0, none⟩) (rising l).length d (flat (rising l))], rfl, f4, f5, rfl, Rc.own (flat_length _) (fun _ => ⟨b, rfl⟩)⟩
end Go.Proofs.YtkoncepjfgnjlaaGreat
/- slices.Sort of numbers, as a contract over parts of the heap. -/
namespace Go.Proofs.YtkoncepjfgnjlaaGreat
open Go.RowKit Go.Sort
set_option linter.unusedVariables false
set_option linter.unusedSimpArgs false

def srt (l : List Int) : List Int := l.mergeSort fun x y => decide (x ≤ y)
/-- The shelf's contract of slices.Sort gives one over parts of the heap. -/
theorem sort_of_shelf {P : Program} {f : FuncId} {e : TypeId} (b n c : Nat) (zs : List Int) (L : List HP) (hn : zs.length = n) (h0 : 0 < n)
    (h : ∀ w, Holds (Value.int .i64) w b 0 zs.toArray → b < w.heap.size → Calls P f #[.slice (some ⟨b, 0, none⟩) zs.length c] w fun en w' =>
      en = .returned (.tuple #[]) ∧ ∃ k os, w' = grow (putRow (Value.int .i64) (Sort.ahead w k) b 0 (zs.mergeSort fun x y => decide (x ≤ y)).toArray) os) :
    Ctr P f #[.slice (some ⟨b, 0, none⟩) n c] (own e 1 (some ⟨b, 0, none⟩) n c (flat zs) :: L) fun v L' => v = .tuple #[] ∧ L' = own e 1 (some ⟨b, 0, none⟩) n c (flat (srt zs)) :: L := by
  intro g F w hw
  have hfl : ∀ l : List Int, flat l = l.map (Value.int .i64) := fun l => by induction l with
    | nil => rfl
    | cons a l ih => rw [flat_cons, ih]; rfl
  have hw2 : Hp g (own e 1 (some ⟨b, 0, none⟩) n c (flat zs) :: F :: L) w := hw.mono fun _ s => s.swap
  obtain ⟨k1, k2, dj, s1, s2, ⟨o1, o2, o3, o4⟩, l⟩ := hw2.s
  rcases o4 with ⟨e1, _⟩ | ⟨b', cur, e1, e2, e3, e4⟩
  · cases e1
  simp only [Option.some.injEq, Addr.mk.injEq, and_true] at e1
  subst e1
  have hb : w.heap[b]? = some (.cells cur e (0, 0)) := s1 _ _ e2
  have hlt : b < w.heap.size := (Array.getElem?_eq_some_iff.1 hb).1
  rw [Nat.mul_one] at e3 e4
  have hcur : ∀ j, j < n → cur[j]? = some (.int .i64 (zs.getD j 0)) := fun j hj => by
    have : (flat zs)[j]? = some (.int .i64 (zs.getD j 0)) := by rw [hfl]; simp [show j < zs.length by omega]
    rw [← e4, List.getElem?_take_of_lt hj] at this
    simpa using this
  have hH : Holds (Value.int .i64) w b 0 zs.toArray := fun j hj => by
    have hj' : j < n := by simpa [hn] using hj
    refine ⟨?_, by simp [World.frozen?, hb]⟩
    rw [Nat.zero_add]
    simp only [World.cell?, hb]
    rw [if_neg (by simp), hcur j hj']
    simp [show j < zs.length by omega]
  rw [← hn]
  refine (h w hH hlt).mono fun en w' ⟨q1, k, os, q2⟩ => ⟨_, _, q1, ⟨rfl, rfl⟩, ?_⟩
  refine Hp.mono (L := own e 1 (some ⟨b, 0, none⟩) zs.length c (flat (srt zs)) :: F :: L) (fun _ s => s.swap) ?_
  rw [hn]
  have hsl : (srt zs).length = n := by rw [srt, List.length_mergeSort, hn]
  have hheap : w'.heap = w.heap.modify b (onCells (putCells (Value.int .i64) 0 (srt zs).toArray)) ++ os := by rw [q2]; rfl
  have hne : ∀ j, j < w.heap.size → j ≠ b → w'.heap[j]? = w.heap[j]? := fun j hj hjb => by
    rw [hheap, Array.getElem?_append_left (by simpa using hj), Array.getElem?_modify, if_neg (Ne.symm hjb)]
  have hbb : w'.heap[b]? = some (.cells (putCells (Value.int .i64) 0 (srt zs).toArray cur) e (0, 0)) := by
    rw [hheap, Array.getElem?_append_left (by simpa using hlt), Array.getElem?_modify, if_pos rfl, hb]; rfl
  refine ⟨by rw [← hw.g, q2]; rfl, fun j => if j = b then some (.cells (putCells (Value.int .i64) 0 (srt zs).toArray cur) e (0, 0)) else none, k2, fun j => ?_, fun j o eo => ?_, fun j o eo => ?_, ⟨by rw [flat_length, hsl]; rfl, o2, o3, .inr ⟨b, putCells (Value.int .i64) 0 (srt zs).toArray cur, rfl, by simp, by simp [putCells, e3], ?_⟩⟩, l⟩
  · by_cases hj : j = b
    · right
      rcases dj j with h9 | h9
      · rw [hj, e2] at h9; cases h9
      · exact h9
    · left; simp [hj]
  · replace eo : (if j = b then some (Obj.cells (putCells (Value.int .i64) 0 (srt zs).toArray cur) e (0, 0)) else none) = some o := eo
    by_cases hj : j = b
    · subst hj; rw [if_pos rfl] at eo; rw [← eo]; exact hbb
    · rw [if_neg hj] at eo; cases eo
  · have hj : j ≠ b := fun hj => by
      rcases dj j with h9 | h9
      · rw [hj, e2] at h9; cases h9
      · rw [h9] at eo; cases eo
    have hlt2 : j < w.heap.size := by
      have := s2 _ _ eo
      rcases Nat.lt_or_ge j w.heap.size with h' | h'
      · exact h'
      · simp [World.hm, Array.getElem?_eq_none h'] at this
    show w'.heap[j]? = _
    rw [hne j hlt2 hj]; exact s2 _ _ eo
  · rw [hfl, Nat.mul_one]
    apply List.ext_getElem?
    intro j
    by_cases hj : j < n
    · rw [List.getElem?_take_of_lt hj]
      have hjc : j < cur.size := by omega
      simp [putCells, hjc, hj, hsl, show j < (srt zs).length by omega]
    · rw [List.getElem?_eq_none (by simp; omega), List.getElem?_eq_none (by simp; omega)]
end Go.Proofs.YtkoncepjfgnjlaaGreat
/- Numbers in order. -/
namespace Go.Proofs.YtkoncepjfgnjlaaGreat
theorem eq_of_sorted : ∀ (l m : List Int), l.Perm m → l.Pairwise (· ≤ ·) → m.Pairwise (· ≤ ·) → l = m
  | [], m, p, _, _ => by simpa using p.symm.eq_nil
  | a :: l, [], p, _, _ => by simpa using p.eq_nil
  | a :: l, b :: m, p, h1, h2 => by
    rw [List.pairwise_cons] at h1 h2
    have e : a = b := by
      have ha : a ∈ b :: m := p.subset (by simp)
      have hb : b ∈ a :: l := p.symm.subset (by simp)
      rcases List.mem_cons.1 ha with h | h
      · exact h
      · rcases List.mem_cons.1 hb with h' | h'
        · exact h'.symm
        · exact Int.le_antisymm (h1.1 _ h') (h2.1 _ h)
    subst e
    rw [eq_of_sorted l m p.cons_inv h1.2 h2.2]
theorem srt_perm (l : List Int) : (srt l).Perm l := List.mergeSort_perm l _
theorem srt_sorted (l : List Int) : (srt l).Pairwise (· ≤ ·) := by
  have := List.pairwise_mergeSort (le := fun x y : Int => decide (x ≤ y)) (fun a b c h1 h2 => by simp at *; omega) (fun a b => by simp; omega) l
  exact this.imp fun h => by simpa using h
theorem ins_perm (x : Int) (l : List Int) : (ins x l).Perm (x :: l) := by
  unfold ins
  refine List.perm_middle.trans ?_
  rw [List.takeWhile_append_dropWhile]
theorem ins_sorted (x : Int) (l : List Int) (h : l.Pairwise (· ≤ ·)) : (ins x l).Pairwise (· ≤ ·) := by
  induction l with
  | nil => simp [ins]
  | cons a l ih =>
    rw [List.pairwise_cons] at h
    by_cases ha : a ≤ x
    · have e : ins x (a :: l) = a :: ins x l := by simp [ins, ha]
      rw [e, List.pairwise_cons]
      refine ⟨fun b hb => ?_, ih h.2⟩
      rcases List.mem_cons.1 ((ins_perm x l).subset hb) with h' | h'
      · rw [h']; exact ha
      · exact h.1 _ h'
    · have e : ins x (a :: l) = x :: a :: l := by simp [ins, ha]
      rw [e, List.pairwise_cons]
      refine ⟨fun b hb => ?_, by rw [List.pairwise_cons]; exact h⟩
      rcases List.mem_cons.1 hb with h' | h'
      · rw [h']; omega
      · have := h.1 _ h'; omega
theorem rising_fold (l o : List Int) (ho : o.Pairwise (· ≤ ·)) : (l.foldl (fun o x => ins x o) o).Pairwise (· ≤ ·) ∧ (l.foldl (fun o x => ins x o) o).Perm (o ++ l) := by
  induction l generalizing o with
  | nil => exact ⟨ho, by simp⟩
  | cons a l ih =>
    obtain ⟨h1, h2⟩ := ih (ins a o) (ins_sorted a o ho)
    refine ⟨h1, h2.trans ?_⟩
    refine ((ins_perm a o).append_right l).trans ?_
    exact (List.perm_middle (l₁ := o) (l₂ := l) (a := a)).symm
theorem rising_perm (l : List Int) : (rising l).Perm l := by simpa [rising] using (rising_fold l [] .nil).2
theorem rising_srt (l m : List Int) (h : l.Perm m) : rising l = srt m :=
  eq_of_sorted _ _ ((rising_perm l).trans (h.trans (srt_perm m).symm)) (rising_fold l [] .nil).1 (srt_sorted m)
end Go.Proofs.YtkoncepjfgnjlaaGreat
/- Arrays that lead into one another: the plain part. -/
namespace Go.Proofs.YtkoncepjfgnjlaaGreat
set_option linter.unusedVariables false
set_option linter.unusedSimpArgs false

/-- A point. -/
structure Pt where
  id : Int
  x : Int
  y : Int
  deriving DecidableEq
instance : Enc Pt := ⟨3, fun p => [.int .i64 p.id, .int .i64 p.x, .int .i64 p.y], fun _ => rfl, fun p v h => by
  simp at h
  rcases h with rfl | rfl | rfl <;> rfl⟩
/-- A point, and to where it leads. -/
structure Ent where
  p : Pt
  low : Int
  high : Int
  deriving DecidableEq
instance : Enc Ent := ⟨5, fun e => [.int .i64 e.p.id, .int .i64 e.p.x, .int .i64 e.p.y, .int .i64 e.low, .int .i64 e.high], fun _ => rfl, fun p v h => by
  simp at h
  rcases h with rfl | rfl | rfl | rfl | rfl <;> rfl⟩
/-- By X, then Y, then ID. -/
def Pt.less (p q : Pt) : Bool := if p.x ≠ q.x then decide (p.x < q.x) else if p.y ≠ q.y then decide (p.y < q.y) else decide (p.id < q.id)
def Pt.turned (p : Pt) : Pt := ⟨p.id, p.y, p.x⟩
def Pt.cmp (p q : Pt) : Int := if p = q then 0 else if p.less q then -1 else 1
def up (p q : Pt) : Int := p.turned.cmp q.turned
theorem up_le (p q : Pt) (h : up p q ≤ 0) : p.y ≤ q.y := by
  by_cases he : p.turned = q.turned
  · simp [Pt.turned] at he; omega
  · by_cases hl : p.turned.less q.turned = true
    · unfold Pt.less Pt.turned at hl
      by_cases hy : p.y = q.y
      · omega
      · simp [hy] at hl; omega
    · simp [up, Pt.cmp, he, hl] at h
theorem up_gt (p q : Pt) (h : 0 < up p q) : q.y ≤ p.y := by
  by_cases he : p.turned = q.turned
  · simp [Pt.turned] at he; omega
  · by_cases hl : p.turned.less q.turned = true
    · simp [up, Pt.cmp, he, hl] at h
    · unfold Pt.less Pt.turned at hl
      by_cases hy : p.y = q.y
      · omega
      · simp [hy] at hl; omega

/-- Two arrays together, entry by entry. -/
def mrg : Int → Int → List Pt → List Pt → List Ent
  | _, _, [], [] => []
  | i, k, a :: l, [] => ⟨a, i, k⟩ :: mrg (i + 1) k l []
  | i, k, [], b :: m => ⟨b, i, k⟩ :: mrg i (k + 1) [] m
  | i, k, a :: l, b :: m => if up a b ≤ 0 then ⟨a, i, k⟩ :: mrg (i + 1) k l (b :: m) else ⟨b, i, k⟩ :: mrg i (k + 1) (a :: l) m
  termination_by _ _ l m => l.length + m.length
theorem mrg_left (i k : Int) (a : Pt) (l m : List Pt) (h : ∀ b m', m = b :: m' → up a b ≤ 0) : mrg i k (a :: l) m = ⟨a, i, k⟩ :: mrg (i + 1) k l m := by
  cases m with
  | nil => rw [mrg]
  | cons b m => rw [mrg, if_pos (h b m rfl)]
theorem mrg_right (i k : Int) (b : Pt) (l m : List Pt) (h : ∀ a l', l = a :: l' → ¬ up a b ≤ 0) : mrg i k l (b :: m) = ⟨b, i, k⟩ :: mrg i (k + 1) l m := by
  cases l with
  | nil => rw [mrg]
  | cons a l => rw [mrg, if_neg (h a l rfl)]
theorem mrg_length : ∀ (i k : Int) (l m : List Pt), (mrg i k l m).length = l.length + m.length
  | _, _, [], [] => by simp [mrg]
  | i, k, a :: l, [] => by rw [mrg, List.length_cons, mrg_length]; simp
  | i, k, [], b :: m => by rw [mrg, List.length_cons, mrg_length]; simp
  | i, k, a :: l, b :: m => by
    rw [mrg]
    split
    · rw [List.length_cons, mrg_length]; simp; omega
    · rw [List.length_cons, mrg_length]; simp; omega
  termination_by _ _ l m => l.length + m.length
/-- What holds of a point holds of all below it. -/
def Falls (f : Pt → Bool) : Prop := ∀ p q, p.y ≤ q.y → f q = true → f p = true
/-- In order by Y. -/
def Ord : List Pt → Prop
  | [] => True
  | a :: l => (∀ b ∈ l, a.y ≤ b.y) ∧ Ord l
theorem mrg_mem : ∀ (i k : Int) (l m : List Pt) (e : Ent), e ∈ mrg i k l m → e.p ∈ l ∨ e.p ∈ m
  | _, _, [], [], e, h => by simp [mrg] at h
  | i, k, a :: l, [], e, h => by
    rw [mrg, List.mem_cons] at h
    rcases h with rfl | h
    · simp
    · rcases mrg_mem _ _ _ _ _ h with h | h
      · exact .inl (List.mem_cons_of_mem _ h)
      · cases h
  | i, k, [], b :: m, e, h => by
    rw [mrg, List.mem_cons] at h
    rcases h with rfl | h
    · simp
    · rcases mrg_mem _ _ _ _ _ h with h | h
      · cases h
      · exact .inr (List.mem_cons_of_mem _ h)
  | i, k, a :: l, b :: m, e, h => by
    rw [mrg] at h
    split at h
    · rcases List.mem_cons.1 h with rfl | h
      · simp
      · rcases mrg_mem _ _ _ _ _ h with h | h
        · exact .inl (List.mem_cons_of_mem _ h)
        · exact .inr h
    · rcases List.mem_cons.1 h with rfl | h
      · simp
      · rcases mrg_mem _ _ _ _ _ h with h | h
        · exact .inl h
        · exact .inr (List.mem_cons_of_mem _ h)
  termination_by _ _ l m => l.length + m.length
theorem mrg_ord : ∀ (i k : Int) (l m : List Pt), Ord l → Ord m → Ord ((mrg i k l m).map (·.p))
  | _, _, [], [], _, _ => by simp [mrg, Ord]
  | i, k, a :: l, [], h1, h2 => by
    rw [mrg, List.map_cons]
    refine ⟨fun b hb => ?_, mrg_ord _ _ _ _ h1.2 h2⟩
    obtain ⟨e, he, rfl⟩ := List.mem_map.1 hb
    rcases mrg_mem _ _ _ _ _ he with h | h
    · exact h1.1 _ h
    · cases h
  | i, k, [], b :: m, h1, h2 => by
    rw [mrg, List.map_cons]
    refine ⟨fun c hc => ?_, mrg_ord _ _ _ _ h1 h2.2⟩
    obtain ⟨e, he, rfl⟩ := List.mem_map.1 hc
    rcases mrg_mem _ _ _ _ _ he with h | h
    · cases h
    · exact h2.1 _ h
  | i, k, a :: l, b :: m, h1, h2 => by
    rw [mrg]
    split
    · rename_i hu
      rw [List.map_cons]
      refine ⟨fun c hc => ?_, mrg_ord _ _ _ _ h1.2 h2⟩
      obtain ⟨e, he, rfl⟩ := List.mem_map.1 hc
      rcases mrg_mem _ _ _ _ _ he with h | h
      · exact h1.1 _ h
      · have := up_le _ _ hu
        rcases List.mem_cons.1 h with h | h
        · rw [h]; exact this
        · exact Int.le_trans this (h2.1 _ h)
    · rename_i hu
      rw [List.map_cons]
      refine ⟨fun c hc => ?_, mrg_ord _ _ _ _ h1 h2.2⟩
      obtain ⟨e, he, rfl⟩ := List.mem_map.1 hc
      have := up_gt _ _ (by omega : 0 < up a b)
      rcases mrg_mem _ _ _ _ _ he with h | h
      · rcases List.mem_cons.1 h with h | h
        · rw [h]; exact this
        · exact Int.le_trans this (h1.1 _ h)
      · exact h2.1 _ h
  termination_by _ _ l m => l.length + m.length
theorem mrg_count (f : Pt → Bool) : ∀ (i k : Int) (l m : List Pt), ((mrg i k l m).map (·.p)).countP f = l.countP f + m.countP f
  | _, _, [], [] => by simp [mrg]
  | i, k, a :: l, [] => by rw [mrg, List.map_cons, List.countP_cons, mrg_count, List.countP_cons]; simp only [List.countP_nil]; omega
  | i, k, [], b :: m => by rw [mrg, List.map_cons, List.countP_cons, mrg_count, List.countP_cons]; simp only [List.countP_nil]; omega
  | i, k, a :: l, b :: m => by
    rw [mrg]
    split
    · rw [List.map_cons, List.countP_cons, mrg_count]; simp only [List.countP_cons]; omega
    · rw [List.map_cons, List.countP_cons, mrg_count]; simp only [List.countP_cons]; omega
  termination_by _ _ l m => l.length + m.length
theorem ord_count_zero {f : Pt → Bool} (hf : Falls f) {a : Pt} {l : List Pt} (ho : ∀ b ∈ l, a.y ≤ b.y) (ha : f a = false) : l.countP f = 0 := by
  rw [List.countP_eq_zero]
  intro b hb hfb
  have := hf a b (ho b hb) hfb
  rw [ha] at this; cases this
/-- Behind those of which something is true that falls: the entry there leads to where a search would. -/
theorem mrg_leads {f : Pt → Bool} (hf : Falls f) : ∀ (i k : Int) (l m : List Pt), Ord l → Ord m → ∀ e, (mrg i k l m)[l.countP f + m.countP f]? = some e → e.low = i + l.countP f ∧ e.high = k + m.countP f
  | _, _, [], [], _, _, e, h => by simp [mrg] at h
  | i, k, a :: l, [], h1, h2, e, h => by
    rw [mrg] at h
    cases ha : f a with
    | true =>
      have := mrg_leads hf (i + 1) k l [] h1.2 h2 e (by simpa [List.countP_cons, ha] using h)
      simp [List.countP_cons, ha] at this ⊢
      omega
    | false =>
      have z := ord_count_zero hf h1.1 ha
      simp [List.countP_cons, ha, z] at h ⊢
      subst h; simp
  | i, k, [], b :: m, h1, h2, e, h => by
    rw [mrg] at h
    cases hb : f b with
    | true =>
      have := mrg_leads hf i (k + 1) [] m h1 h2.2 e (by simpa [List.countP_cons, hb] using h)
      simp [List.countP_cons, hb] at this ⊢
      omega
    | false =>
      have z := ord_count_zero hf h2.1 hb
      simp [List.countP_cons, hb, z] at h ⊢
      subst h; simp
  | i, k, a :: l, b :: m, h1, h2, e, h => by
    rw [mrg] at h
    split at h
    · rename_i hu
      cases ha : f a with
      | true =>
        have := mrg_leads hf (i + 1) k l (b :: m) h1.2 h2 e (by
          rw [← h]
          rw [show List.countP f (a :: l) + List.countP f (b :: m) = (List.countP f l + List.countP f (b :: m)) + 1 by rw [List.countP_cons, ha]; simp; omega]
          simp)
        rw [List.countP_cons, ha]
        simp at this ⊢
        omega
      | false =>
        have z := ord_count_zero hf h1.1 ha
        have hb : f b = false := by
          cases hb : f b with
          | false => rfl
          | true => have := hf a b (up_le _ _ hu) hb; rw [ha] at this; cases this
        have z2 := ord_count_zero hf h2.1 hb
        simp [List.countP_cons, ha, hb, z, z2] at h ⊢
        subst h; simp
    · rename_i hu
      have hu' := up_gt _ _ (by omega : 0 < up a b)
      cases hb : f b with
      | true =>
        have := mrg_leads hf i (k + 1) (a :: l) m h1 h2.2 e (by
          rw [← h]
          rw [show List.countP f (a :: l) + List.countP f (b :: m) = (List.countP f (a :: l) + List.countP f m) + 1 by rw [List.countP_cons (l := m), hb]; simp; omega]
          simp)
        rw [List.countP_cons (l := m), hb]
        simp at this ⊢
        omega
      | false =>
        have z := ord_count_zero hf h2.1 hb
        have ha : f a = false := by
          cases ha : f a with
          | false => rfl
          | true => have := hf b a hu' ha; rw [hb] at this; cases this
        have z2 := ord_count_zero hf h1.1 ha
        simp [List.countP_cons, ha, hb, z, z2] at h ⊢
        subst h; simp
  termination_by _ _ l m => l.length + m.length
/-- In an order, what falls is true of just the first ones. -/
theorem ord_first {f : Pt → Bool} (hf : Falls f) : ∀ (l : List Pt), Ord l → ∀ k p, l[k]? = some p → (f p = true ↔ k < l.countP f)
  | [], _, k, p, h => by simp at h
  | a :: l, h1, k, p, h => by
    cases ha : f a with
    | true =>
      cases k with
      | zero => simp at h; subst h; simp [ha, List.countP_cons]
      | succ k =>
        have := ord_first hf l h1.2 k p (by simpa using h)
        simp [List.countP_cons, ha, this]
    | false =>
      have z := ord_count_zero hf h1.1 ha
      cases k with
      | zero => simp at h; subst h; simp [ha, List.countP_cons, z]
      | succ k =>
        have := ord_first hf l h1.2 k p (by simpa using h)
        simp [List.countP_cons, ha, z, this]

/-- An array, and both that it was joined of. -/
inductive Arr where
  | nil
  | node (es : List Ent) (lo hi : Arr)
def Arr.es : Arr → List Ent
  | .nil => []
  | .node es _ _ => es
def Arr.pts (a : Arr) : List Pt := a.es.map (·.p)
def join : Arr → Arr → Arr
  | .nil, .nil => .nil
  | a, b => .node (mrg 0 0 a.pts b.pts) a b
theorem join_es (a b : Arr) : (join a b).es = mrg 0 0 a.pts b.pts := by
  cases a <;> cases b <;> simp [join, Arr.es, Arr.pts, mrg]
def leaf (p : Pt) : Arr := .node [⟨p, 0, 0⟩] .nil .nil
def made : Nat → List Pt → Arr
  | 0, l => match l with
    | [p] => leaf p
    | _ => .nil
  | f + 1, l => match l with
    | [] => .nil
    | [p] => leaf p
    | p :: q :: l' => join (made f ((p :: q :: l').take ((p :: q :: l').length / 2))) (made f ((p :: q :: l').drop ((p :: q :: l').length / 2)))
/-- Where a place leads. -/
def lead (a : Arr) (i : Int) (high : Bool) : Int :=
  match a with
  | .nil => 0
  | .node es lo hi =>
    if 0 ≤ i ∧ i < es.length then (match es[i.toNat]? with
      | some e => if high then e.high else e.low
      | none => 0)
    else if i ≠ es.length then 0
    else if high then hi.es.length else lo.es.length
theorem lead_join {f : Pt → Bool} (hf : Falls f) (a b : Arr) (ha : Ord a.pts) (hb : Ord b.pts) (high : Bool) :
    lead (join a b) ((join a b).pts.countP f : Nat) high = if high then (b.pts.countP f : Int) else (a.pts.countP f : Int) := by
  have key : ∀ es, es = mrg 0 0 a.pts b.pts → lead (.node es a b) ((es.map (·.p)).countP f : Nat) high = if high then (b.pts.countP f : Int) else (a.pts.countP f : Int) := by
    intro es he
    have hc := mrg_count f 0 0 a.pts b.pts
    rw [← he] at hc
    have hl := mrg_length 0 0 a.pts b.pts
    rw [← he] at hl
    have hle : (es.map (·.p)).countP f ≤ es.length := by have := List.countP_le_length (p := f) (l := es.map (·.p)); rwa [List.length_map] at this
    have hml := mrg_leads hf 0 0 a.pts b.pts ha hb
    rw [← he, ← hc] at hml
    have e1 : a.pts.length = a.es.length := List.length_map ..
    have e2 : b.pts.length = b.es.length := List.length_map ..
    have l1 := List.countP_le_length (p := f) (l := a.pts)
    have l2 := List.countP_le_length (p := f) (l := b.pts)
    clear he
    generalize (es.map (·.p)).countP f = c at *
    simp only [lead]
    by_cases hlt : c < es.length
    · rw [if_pos (by omega)]
      have hg : es[c]? = some es[c] := List.getElem?_eq_getElem hlt
      have := hml es[c] hg
      rw [Int.toNat_natCast, hg]
      cases high <;> simp <;> omega
    · rw [if_neg (by omega), if_neg (by omega)]
      cases high <;> simp <;> omega
  cases a with
  | nil =>
    cases b with
    | nil => cases high <;> simp [join, lead, Arr.pts, Arr.es]
    | node es lo hi => exact key _ rfl
  | node es lo hi => cases b <;> exact key _ rfl
end Go.Proofs.YtkoncepjfgnjlaaGreat
/- Arrays that lead into one another: the walks of the small functions. -/
namespace Go.Proofs.YtkoncepjfgnjlaaGreat
attribute [local irreducible] sat
set_option linter.unusedVariables false
set_option maxRecDepth 100000

/-- An array as it lies in memory. -/
def ArrIn (L : List HP) : Option Addr → Arr → Prop
  | p, .nil => p = none
  | p, .node es lo hi => ∃ b A c pl ph, p = some ⟨b, 0, none⟩ ∧ LdN L b 0 3 [.slice A es.length c, .pointer pl, .pointer ph] ∧ Rd L A es.length es ∧ es.length ≤ c ∧ c ≤ maxLen ∧ ArrIn L pl lo ∧ ArrIn L ph hi
theorem ArrIn.skip {X : HP} {L : List HP} : ∀ {t : Arr} {p : Option Addr}, ArrIn L p t → ArrIn (X :: L) p t
  | .nil, _, h => h
  | .node es lo hi, _, ⟨b, A, c, pl, ph, e, h1, h2, h3, h4, h5, h6⟩ => ⟨b, A, c, pl, ph, e, h1.skip, h2.skip, h3, h4, h5.skip, h6.skip⟩
theorem ArrIn.app {N L : List HP} {t : Arr} {p : Option Addr} (h : ArrIn L p t) : ArrIn (N ++ L) p t := by
  induction N with
  | nil => exact h
  | cons X N ih => exact ih.skip

theorem turned_ctr (p : Pt) (L : List HP) : Ctr Tryz.prog 144 #[.agg #[.int .i64 p.id, .int .i64 p.x, .int .i64 p.y]] L fun v L' => v = .agg #[.int .i64 p.id, .int .i64 p.y, .int .i64 p.x] ∧ L' = L := by
  refine Ctr_of (fn := Tryz.f144) (n := 10) Tryz.func144 rfl rfl rfl ?_
  intro g F
  refine G_seq ?_
  refine GN ?_
  refine G_region ?_
  refine GE (eff_box rfl) ?_; rintro _ _ ⟨b1, rfl, rfl⟩
  refine GE eff_alloc ?_; rintro _ _ ⟨b2, rfl, rfl⟩
  refine GO_nil ?_
  refine G_seq ?_
  refine GN ?_
  refine G_region ?_
  refine GQ (ev_fieldAddr rfl) ?_
  refine GQ (ev_load rfl LdA) ?_
  refine GQ (ev_fieldAddr rfl) ?_
  refine GQ (ev_load rfl LdA) ?_
  refine GQ (ev_fieldAddr rfl) ?_
  refine GQ (ev_load rfl LdA) ?_
  refine GQ (ev_build rfl rfl) ?_
  refine GE (eff_storeN rfl rfl rfl rfl UpA) ?_; rintro _ _ ⟨rfl, rfl⟩
  refine GO_nil ?_
  refine G_ret rfl (.cell rfl (loadN_run LnA) .nil) EnA ⟨rfl, rfl⟩
theorem less_ctr (p q : Pt) (L : List HP) : Ctr Tryz.prog 64 #[.agg #[.int .i64 p.id, .int .i64 p.x, .int .i64 p.y], .agg #[.int .i64 q.id, .int .i64 q.x, .int .i64 q.y]] L fun v L' => v = .bool (p.less q) ∧ L' = L := by
  refine Ctr_of (fn := Tryz.f64) (n := 30) Tryz.func64 rfl rfl rfl ?_
  intro g F
  refine G_seq ?_
  refine GN ?_
  refine G_region ?_
  refine GE (eff_box rfl) ?_; rintro _ _ ⟨b2, rfl, rfl⟩
  refine GE (eff_box rfl) ?_; rintro _ _ ⟨b3, rfl, rfl⟩
  refine GQ (ev_assign rfl) ?_
  refine GO_nil ?_
  refine G_seq ?_
  refine G_seq ?_
  refine GN ?_
  refine G_region ?_
  refine GQ (ev_fieldAddr rfl) ?_
  refine GQ (ev_load rfl LdA) ?_
  refine GQ (ev_fieldAddr rfl) ?_
  refine GQ (ev_load rfl LdA) ?_
  refine GQ (ev_neq rfl rfl) ?_
  refine GO_nil ?_
  refine G_cond rfl (fun h1 => ?_) (fun h1 => ?_)
  · refine G_seq ?_
    refine GN ?_
    refine G_region ?_
    refine GQ (ev_fieldAddr rfl) ?_
    refine GQ (ev_load rfl LdA) ?_
    refine GQ (ev_fieldAddr rfl) ?_
    refine GQ (ev_load rfl LdA) ?_
    (first | refine GQ (ev_lssN rfl rfl) ?_ | refine GQ (ev_lss rfl rfl) ?_)
    refine GQ (ev_assign rfl) ?_
    refine GO_nil ?_
    refine G_ret rfl (.tmp rfl .nil) EnA ⟨by simp [retv, Pt.less, h1], rfl⟩
  · refine G_skip ?_
    refine G_seq ?_
    refine G_seq ?_
    refine GN ?_
    refine G_region ?_
    refine GQ (ev_fieldAddr rfl) ?_
    refine GQ (ev_load rfl LdA) ?_
    refine GQ (ev_fieldAddr rfl) ?_
    refine GQ (ev_load rfl LdA) ?_
    refine GQ (ev_neq rfl rfl) ?_
    refine GO_nil ?_
    refine G_cond rfl (fun h2 => ?_) (fun h2 => ?_)
    · refine G_seq ?_
      refine GN ?_
      refine G_region ?_
      refine GQ (ev_fieldAddr rfl) ?_
      refine GQ (ev_load rfl LdA) ?_
      refine GQ (ev_fieldAddr rfl) ?_
      refine GQ (ev_load rfl LdA) ?_
      (first | refine GQ (ev_lssN rfl rfl) ?_ | refine GQ (ev_lss rfl rfl) ?_)
      refine GQ (ev_assign rfl) ?_
      refine GO_nil ?_
      refine G_ret rfl (.tmp rfl .nil) EnA ⟨by simp [retv, Pt.less, h1, h2], rfl⟩
    · refine G_skip ?_
      refine G_seq ?_
      refine GN ?_
      refine G_region ?_
      refine GQ (ev_fieldAddr rfl) ?_
      refine GQ (ev_load rfl LdA) ?_
      refine GQ (ev_fieldAddr rfl) ?_
      refine GQ (ev_load rfl LdA) ?_
      (first | refine GQ (ev_lssN rfl rfl) ?_ | refine GQ (ev_lss rfl rfl) ?_)
      refine GQ (ev_assign rfl) ?_
      refine GO_nil ?_
      refine G_ret rfl (.tmp rfl .nil) EnA ⟨by simp [retv, Pt.less, h1, h2], rfl⟩
theorem by_ctr (p q : Pt) (L : List HP) : Ctr Tryz.prog 152 #[.agg #[.int .i64 p.id, .int .i64 p.x, .int .i64 p.y], .agg #[.int .i64 q.id, .int .i64 q.x, .int .i64 q.y], .func (.func 64) #[] #[]] L fun v L' => v = .int .i64 (p.cmp q) ∧ L' = L := by
  refine Ctr_of (fn := Tryz.f152) (n := 16) Tryz.func152 rfl rfl rfl ?_
  intro g F
  refine G_seq ?_
  refine GN ?_
  refine G_region ?_
  refine GE (eff_box rfl) ?_; rintro _ _ ⟨b3, rfl, rfl⟩
  refine GE (eff_box rfl) ?_; rintro _ _ ⟨b4, rfl, rfl⟩
  refine GQ (ev_assign rfl) ?_
  refine GO_nil ?_
  refine G_seq ?_
  refine G_block ?_
  refine G_seq ?_
  refine GN ?_
  refine G_region ?_
  refine GQ (ev_loadN rfl LnA) ?_
  refine GQ (ev_loadN rfl LnA) ?_
  refine GQ (ev_eqlS rfl rfl rfl rfl rfl rfl) ?_
  refine GQ (ev_assign rfl) ?_
  refine GO_nil ?_
  refine G_cond rfl (fun h1 => ?_) (fun h1 => ?_)
  · refine G_seq ?_
    refine GN ?_
    refine G_region ?_
    refine GQ (ev_assign rfl) ?_
    refine GO_nil ?_
    refine G_ret rfl (.tmp rfl .nil) EnA ⟨?_, rfl⟩
    obtain ⟨pi, px, py⟩ := p
    obtain ⟨qi, qx, qy⟩ := q
    simp at h1
    simp [retv, Pt.cmp, h1]
  · have hne : p ≠ q := fun e => h1 (by subst e; rfl)
    refine G_seq ?_
    refine GN ?_
    refine G_region ?_
    refine GQ (ev_move rfl) ?_
    refine GQ (ev_loadN rfl LnA) ?_
    refine GQ (ev_loadN rfl LnA) ?_
    refine GE (eff_callv rfl rfl (less_ctr p q _)) ?_; rintro _ _ ⟨rfl, rfl⟩
    refine GQ (ev_assign rfl) ?_
    refine GO_nil ?_
    refine G_condB rfl (fun h2 => ?_) (fun h2 => ?_)
    · refine G_seq ?_
      refine GN ?_
      refine G_region ?_
      refine GQ (ev_assign rfl) ?_
      refine GO_nil ?_
      refine G_ret rfl (.tmp rfl .nil) EnA ⟨by simp [retv, Pt.cmp, hne, h2], rfl⟩
    · refine G_skip ?_
      refine G_endblk ?_
      refine G_seq ?_
      refine GN ?_
      refine G_region ?_
      refine GQ (ev_assign rfl) ?_
      refine GO_nil ?_
      refine G_ret rfl (.tmp rfl .nil) EnA ⟨by simp [retv, Pt.cmp, hne, h2], rfl⟩
theorem compare_ctr (p q : Pt) (L : List HP) : Ctr Tryz.prog 143 #[.agg #[.int .i64 p.id, .int .i64 p.x, .int .i64 p.y], .agg #[.int .i64 q.id, .int .i64 q.x, .int .i64 q.y]] L fun v L' => v = .int .i64 (p.cmp q) ∧ L' = L := by
  refine Ctr_of (fn := Tryz.f143) (n := 8) Tryz.func143 rfl rfl rfl ?_
  intro g F
  refine G_seq ?_
  refine GN ?_
  refine G_region ?_
  refine GE (eff_box rfl) ?_; rintro _ _ ⟨b2, rfl, rfl⟩
  refine GE (eff_box rfl) ?_; rintro _ _ ⟨b3, rfl, rfl⟩
  refine GQ (ev_assign rfl) ?_
  refine GO_nil ?_
  refine G_seq ?_
  refine GN ?_
  refine G_region ?_
  refine GQ (ev_loadN rfl LnA) ?_
  refine GQ (ev_loadN rfl LnA) ?_
  refine GE (eff_call rfl (by_ctr p q _)) ?_; rintro _ _ ⟨rfl, rfl⟩
  refine GQ (ev_assign rfl) ?_
  refine GO_nil ?_
  refine G_ret rfl (.tmp rfl .nil) EnA ⟨rfl, rfl⟩
theorem up_ctr (p q : Pt) (L : List HP) : Ctr Tryz.prog 122 #[.agg #[.int .i64 p.id, .int .i64 p.x, .int .i64 p.y], .agg #[.int .i64 q.id, .int .i64 q.x, .int .i64 q.y]] L fun v L' => v = .int .i64 (up p q) ∧ L' = L := by
  refine Ctr_of (fn := Tryz.f122) (n := 10) Tryz.func122 rfl rfl rfl ?_
  intro g F
  refine G_seq ?_
  refine GN ?_
  refine G_region ?_
  refine GE (eff_box rfl) ?_; rintro _ _ ⟨b2, rfl, rfl⟩
  refine GE (eff_box rfl) ?_; rintro _ _ ⟨b3, rfl, rfl⟩
  refine GQ (ev_assign rfl) ?_
  refine GO_nil ?_
  refine G_seq ?_
  refine GN ?_
  refine G_draw (.q 0 (.q 2 (.e 1 (.e 3 (.e 4 (.q 5 .nil)))))) (by kernel_rfl) (by kernel_rfl) ?_
  refine RQ rfl (ev_loadN rfl LnA) ?_
  refine RQ rfl (ev_loadN rfl LnA) ?_
  refine RS_e (RE_eff rfl rfl rfl (eff_call rfl (turned_ctr p _)) ?_); rintro _ _ ⟨rfl, rfl⟩; refine ⟨_, fun _ s => s, ExA, ?_⟩
  refine RS_e (RE_eff rfl rfl rfl (eff_call rfl (turned_ctr q _)) ?_); rintro _ _ ⟨rfl, rfl⟩; refine ⟨_, fun _ s => s, ExA, ?_⟩
  refine RS_e (RE_eff rfl rfl rfl (eff_call rfl (compare_ctr p.turned q.turned _)) ?_); rintro _ _ ⟨rfl, rfl⟩; refine ⟨_, fun _ s => s, ExA, ?_⟩
  refine RM rfl (ev_assign rfl) ?_
  refine RS_nil ?_
  refine G_ret rfl (.tmp rfl .nil) EnA ⟨rfl, rfl⟩
theorem size_ctr (p : Option Addr) (t : Arr) (L : List HP) (h : ArrIn L p t) : Ctr Tryz.prog 121 #[.pointer p] L fun v L' => v = .int .i64 t.es.length ∧ L' = L := by
  cases t with
  | nil =>
    cases h
    refine Ctr_of (fn := Tryz.f121) (n := 10) Tryz.func121 rfl rfl rfl ?_
    intro g F
    refine G_seq ?_
    refine GN ?_
    refine G_region ?_
    refine GQ (ev_assign rfl) ?_
    refine GO_nil ?_
    refine G_seq ?_
    refine G_seq ?_
    refine GN ?_
    refine G_region ?_
    refine GQ (ev_move rfl) ?_
    (first | refine GQ (ev_eqlNil rfl rfl) ?_ | refine GQ (ev_eqlPtr rfl rfl) ?_)
    refine GO_nil ?_
    refine G_cond_t rfl rfl ?_
    refine G_seq ?_
    refine GN ?_
    refine G_region ?_
    refine GQ (ev_assign rfl) ?_
    refine GO_nil ?_
    refine G_ret rfl (.tmp rfl .nil) EnA ⟨rfl, rfl⟩
  | node es lo hi =>
    obtain ⟨b, A, c, pl, ph, rfl, h1, h2, h3, h4, h5, h6⟩ := h
    have h7 := h1.at_ (i := 0) rfl
    refine Ctr_of (fn := Tryz.f121) (n := 10) Tryz.func121 rfl rfl rfl ?_
    intro g F
    refine G_seq ?_
    refine GN ?_
    refine G_region ?_
    refine GQ (ev_assign rfl) ?_
    refine GO_nil ?_
    refine G_seq ?_
    refine G_seq ?_
    refine GN ?_
    refine G_region ?_
    refine GQ (ev_move rfl) ?_
    (first | refine GQ (ev_eqlNil rfl rfl) ?_ | refine GQ (ev_eqlPtr rfl rfl) ?_)
    refine GO_nil ?_
    refine G_cond_f rfl rfl ?_
    refine G_skip ?_
    refine G_seq ?_
    refine GN ?_
    refine G_region ?_
    refine GQ (ev_move rfl) ?_
    (first | refine GQ (ev_nilCheck rfl) ?_ | refine GQ (ev_nilCheckF (by simp) rfl) ?_)
    refine GQ (ev_fieldAddr rfl) ?_
    refine GQ (ev_load rfl LdA) ?_
    refine GQ (ev_len rfl) ?_
    refine GQ (ev_assign rfl) ?_
    refine GO_nil ?_
    refine G_ret rfl (.tmp rfl .nil) EnA ⟨rfl, rfl⟩
theorem entries_ctr (p : Option Addr) (t : Arr) (L : List HP) (h : ArrIn L p t) : Ctr Tryz.prog 132 #[.pointer p] L fun v L' => (∃ A c, v = .slice A t.es.length c ∧ Rd L A t.es.length t.es ∧ t.es.length ≤ c ∧ c ≤ maxLen) ∧ L' = L := by
  cases t with
  | nil =>
    cases h
    refine Ctr_of (fn := Tryz.f132) (n := 9) Tryz.func132 rfl rfl rfl ?_
    intro g F
    refine G_seq ?_
    refine GN ?_
    refine G_region ?_
    refine GQ (ev_assign rfl) ?_
    refine GO_nil ?_
    refine G_seq ?_
    refine G_seq ?_
    refine GN ?_
    refine G_region ?_
    refine GQ (ev_move rfl) ?_
    (first | refine GQ (ev_eqlNil rfl rfl) ?_ | refine GQ (ev_eqlPtr rfl rfl) ?_)
    refine GO_nil ?_
    refine G_cond_t rfl rfl ?_
    refine G_seq ?_
    refine GN ?_
    refine G_region ?_
    refine GQ (ev_assign rfl) ?_
    refine GO_nil ?_
    refine G_ret rfl (.tmp rfl .nil) EnA ⟨⟨none, 0, rfl, Rd.nil _ _, Nat.le_refl _, Nat.zero_le _⟩, rfl⟩
  | node es lo hi =>
    obtain ⟨b, A, c, pl, ph, rfl, h1, h2, h3, h4, h5, h6⟩ := h
    have h7 := h1.at_ (i := 0) rfl
    refine Ctr_of (fn := Tryz.f132) (n := 9) Tryz.func132 rfl rfl rfl ?_
    intro g F
    refine G_seq ?_
    refine GN ?_
    refine G_region ?_
    refine GQ (ev_assign rfl) ?_
    refine GO_nil ?_
    refine G_seq ?_
    refine G_seq ?_
    refine GN ?_
    refine G_region ?_
    refine GQ (ev_move rfl) ?_
    (first | refine GQ (ev_eqlNil rfl rfl) ?_ | refine GQ (ev_eqlPtr rfl rfl) ?_)
    refine GO_nil ?_
    refine G_cond_f rfl rfl ?_
    refine G_skip ?_
    refine G_seq ?_
    refine GN ?_
    refine G_region ?_
    refine GQ (ev_move rfl) ?_
    (first | refine GQ (ev_nilCheck rfl) ?_ | refine GQ (ev_nilCheckF (by simp) rfl) ?_)
    refine GQ (ev_fieldAddr rfl) ?_
    refine GQ (ev_load rfl LdA) ?_
    refine GQ (ev_assign rfl) ?_
    refine GO_nil ?_
    refine G_ret rfl (.tmp rfl .nil) EnA ⟨⟨_, _, rfl, h2, h3, h4⟩, rfl⟩
end Go.Proofs.YtkoncepjfgnjlaaGreat
/- buildSlice with any number of parts. -/
namespace Go.Proofs.YtkoncepjfgnjlaaGreat
set_option linter.unusedVariables false
set_option linter.unusedSimpArgs false

section
variable {P : Program} {g : Glob} {L : List HP} {σ : Env} {d : Option Nat} {ty T : TypeId} {pos : String} {aft : Array Edge} {gd : Option (Nat × Bool)}
/-- n times the same cells. -/
def repL (n : Nat) (zs : List Value) : List Value := (List.range (n * zs.length)).map fun j => zs.getD (j % zs.length) (.bool false)
theorem eff_buildSliceN {e : TypeId} {sz by_ n : Nat} {zs cs : List Value} {ps : List (Nat × Operand)} {pv : List (Nat × Value)} [H : SliceT P T (e, sz, by_)] [HZ : ZeroT P e zs] (hz : (Nat.beq zs.length sz && Nat.ble 1 sz && Nat.ble 1 n && Nat.ble (n * sz) 1000) = true) (hp : evParts σ ps = some pv)
    (hf : fillL (fun i => some (i * sz, sz)) (repL n zs) pv = some cs) :
    Eff P g L σ ⟨d, .buildSlice T n ps.toArray, ty, pos, aft, gd⟩ fun r L' => ∃ b, r = .slice (some ⟨b, 0, none⟩) n n ∧ L' = blk b e cs :: L := fun a w hs hw K Q hK => by
  simp only [Bool.and_eq_true] at hz
  have z1 := Nat.eq_of_beq_eq_true hz.1.1.1
  have z2 := Nat.le_of_ble_eq_true hz.1.1.2
  have z3 := Nat.le_of_ble_eq_true hz.1.2
  have z4 := Nat.le_of_ble_eq_true hz.2
  have z5 : 0 < n * sz := Nat.mul_pos z3 z2
  obtain ⟨hu, ie, hie, hs2, _⟩ := H.spec
  have e4 : (sizeOf e).run P w = .ok sz w := by simp [sizeOf, typeInfo, hie, hs2]
  unfold Oper.wp
  have e1 : (ps.toArray.map fun (i, x) => (i, a.eval x)) = pv.toArray := by rw [List.map_toArray]; congr 1; exact evParts_map hs hp
  obtain ⟨v, e5, e6⟩ := HZ.run w
  have e7 : (Array.range (n * sz)).map (fun j => zs.toArray[j % zs.toArray.size]!) = (repL n zs).toArray := by
    apply Array.ext
    · simp [repL, z1]
    · intro i hi _
      simp at hi
      have : i % sz < zs.length := by rw [z1]; exact Nat.mod_lt _ z2
      simp [repL, z1, List.getElem?_eq_getElem this, List.getD_eq_getElem?_getD]
  simp only [execOp, Instr.buildSlice, Sem.run_bind, run_underlying hu, Result.andThen_ok, e4, e1]
  rw [if_neg (by omega)]
  simp only [Sem.run_bind, Sem.run_pure, Result.andThen_ok]
  rw [if_neg (by omega)]
  simp only [Sem.run_bind, e5, Result.andThen_ok, Sem.run_pure, e6, e7, fillL_eq hf, newRow_run]
  exact hK _ _ _ ⟨_, rfl, rfl⟩ (hw.alloc e _)
end

end Go.Proofs.YtkoncepjfgnjlaaGreat
/- The library's functions on slices, at points. -/
namespace Go.Proofs.YtkoncepjfgnjlaaGreat
attribute [local irreducible] sat
set_option linter.unusedVariables false
set_option linter.unusedSimpArgs false
set_option maxRecDepth 100000

theorem Ctr.pre {P : Program} {f : FuncId} {args : Array Value} {L M : List HP} {post : Value → List HP → Prop} (hp : ∀ h, sat L h → sat M h) (h : Ctr P f args M post) : Ctr P f args L post :=
  fun g F w hw => h g F w (hw.mono fun _ s => s.cons_mono hp)
theorem Ctr.pick {P : Program} {f : FuncId} {args : Array Value} {L M : List HP} {X : HP} {post : Value → List HP → Prop} (hp : Pick X L M) (h : Ctr P f args (X :: M) post) : Ctr P f args L post :=
  h.pre fun _ s => s.perm hp.perm
/-- What a function leaves that makes a slice of its own. -/
def Made (T : TypeId) {α : Type} [E : Enc α] (l : List α) (L : List HP) (v : Value) (L' : List HP) : Prop := ∃ A c, v = .slice A l.length c ∧ (0 < l.length → ∃ b, A = some ⟨b, 0, none⟩) ∧ L' = own T E.sz A l.length c (flat l) :: L

/-- slices.Clone -/
theorem Clone_ctr (A : Option Addr) (n c : Nat) (l : List Pt) (L : List HP) (hl : Rd L A n l) (hn : n ≤ 1000000) :
    Ctr Tryz.prog 69 #[.slice A n c] L fun v L' => Made 28 l L v L' := by
  have h1 : l.length = n := hl.len (by decide)
  refine Ctr_of (fn := Tryz.f69) (n := 8) Tryz.func69 rfl rfl rfl ?_
  intro g F
  refine GN ?_
  refine G_region ?_
  refine GQ (ev_assign rfl) ?_
  refine GO_nil ?_
  refine GN ?_
  refine G_region ?_
  refine GQ (ev_move rfl) ?_
  refine GQ (ev_eqlNilS rfl rfl) ?_
  refine GO_nil ?_
  refine GN ?_
  refine G_condB rfl (fun h2 => ?_) (fun h2 => ?_)
  · have e : A = none := by simpa using h2
    subst e
    have h3 : n = 0 := by
      rcases Nat.eq_zero_or_pos n with h | h
      · exact h
      · obtain ⟨b, o, e, _⟩ := hl.at_ h; cases e
    subst h3
    have : l = [] := List.eq_nil_of_length_eq_zero h1
    subst this
    refine GN ?_
    refine G_region ?_
    refine GQ (ev_assign rfl) ?_
    refine GO_nil ?_
    refine GN ?_
    refine G_ret (L' := own 28 3 none 0 0 [] :: L) rfl (.tmp rfl .nil) ?_ ⟨none, 0, rfl, fun h => absurd h (Nat.lt_irrefl 0), rfl⟩
    exact fun h s => (own.nil_ 28 3 h s).swap
  · refine GN ?_
    refine G_region ?_
    refine GE eff_buildSlice0 ?_; rintro _ _ ⟨b5, rfl, rfl⟩
    refine GQ (ev_move rfl) ?_
    refine GE (eff_append rfl rfl PkA (Rc.skip (Rc.skip hl)) ((flat_one _)) (by rfl) (by decide) NgA NgA) ?_; rintro _ _ ⟨A7, c7, rfl, hc7, hm7, hn7, rfl⟩
    refine GQ (ev_assign rfl) ?_
    refine GO_nil ?_
    rw [Nat.zero_add] at hc7 hn7
    refine GN ?_
    refine G_ret (L' := own 28 3 A7 l.length c7 (flat l) :: L) rfl (.tmp rfl .nil) ?_ ⟨A7, c7, by rw [h1]; simp [retv], by rw [h1]; exact hn7, rfl⟩
    rw [h1, Nat.zero_add, List.nil_append]
    refine en_pick (.skip (.here)) ?_
    refine en_pick (.here) ?_
    exact EnA
end Go.Proofs.YtkoncepjfgnjlaaGreat
