/- Words for memory: what a slice reads as, and what a call keeps. No program stands in this text. -/
import Derived.WalkKit
import Derived.Deep.Draws
import Derived.Deep.Slices
import Derived.Deep.AppendLies
import Derived.Maps.AppendAt
import Derived.WideShapes
import Derived.ProofKit
import Derived.Lib.Hide
import Derived.BigQuiet
namespace Go.Proofs.Ytmgkmammkmlakaa
open Go.RowKit

/-- What was there before is as it was, but for the blocks of S. -/
structure Keep (S : Nat → Prop) (w w' : World) : Prop where
  os : w'.os = w.os
  tape : w'.tape = w.tape
  output : w'.output = w.output
  size : w.heap.size ≤ w'.heap.size
  block : ∀ k, k < w.heap.size → ¬ S k → w'.heap[k]? = w.heap[k]?

/-- No block at all. -/
def noBlk : Nat → Prop := fun _ => False
/-- The blocks of a list. -/
def inL (l : List Nat) : Nat → Prop := fun k => k ∈ l

section
variable {S S' : Nat → Prop} {a w w' w'' : World}
theorem Keep.refl (S : Nat → Prop) (w : World) : Keep S w w := ⟨rfl, rfl, rfl, Nat.le_refl _, fun _ _ _ => rfl⟩
/-- Two steps: what the second one may turn is old only where the first one's was. -/
theorem Keep.trans' (h : Keep S w w') (k : Keep S' w' w'') (hs : ∀ i, S' i → i < w.heap.size → S i) : Keep S w w'' :=
  ⟨k.os.trans h.os, k.tape.trans h.tape, k.output.trans h.output, Nat.le_trans h.size k.size, fun i hi hn =>
    (k.block i (Nat.lt_of_lt_of_le hi h.size) (fun h' => hn (hs i h' hi))).trans (h.block i hi hn)⟩
theorem Keep.trans (h : Keep S w w') (k : Keep S w' w'') : Keep S w w'' := h.trans' k fun _ hs _ => hs
theorem Keep.mono (h : Keep S w w') (hs : ∀ i, i < w.heap.size → S i → S' i) : Keep S' w w' := ⟨h.os, h.tape, h.output, h.size, fun i hi hn => h.block i hi fun h' => hn (hs i hi h')⟩
theorem Keep.weaken (h : Keep noBlk w w') : Keep S w w' := h.mono fun _ _ h' => h'.elim
theorem Keep.drew (h : Keep S a w) : Keep S a w.drew := ⟨h.os, h.tape, h.output, h.size, h.block⟩
theorem Keep.drewN (h : Keep S a w) (n : Nat) : Keep S a (w.drewN n) := ⟨h.os, h.tape, h.output, h.size, h.block⟩
theorem Keep.alloc (h : Keep S a w) (o : Obj) : Keep S a (w.alloc o) :=
  h.trans ⟨rfl, rfl, rfl, by simp, fun k hk _ => Below.heap_alloc _ _ _ hk⟩
theorem Keep.setCell (h : Keep S a w) {p : Addr} (hp : p.block < a.heap.size → S p.block) (u : Value) : Keep S a (w.setCell p u) :=
  h.trans' (S' := fun k => k = p.block) ⟨rfl, rfl, rfl, by simp [World.setCell], fun k _ hk => Below.heap_setCell _ _ _ _ hk⟩ (fun i hi hlt => by subst hi; exact hp hlt)
theorem Keep.grown (h : Keep S a w) {row : Option Nat} (hg : w.grownBy w' row) (hr : ∀ k, row = some k → k < a.heap.size → S k) : Keep S a w' :=
  h.trans' (S' := fun k => some k = row) ⟨hg.os, hg.tape, hg.output, hg.size, fun k hk hn => hg.block k hk fun e => hn e⟩ (fun i hi hlt => hr i hi.symm hlt)
theorem Keep.below (h : Keep noBlk w w') : Below w.heap.size w w' := ⟨h.os, h.tape, h.output, h.size, fun k hk => h.block k hk id⟩
theorem Keep.of_below (h : Below w.heap.size w w') : Keep noBlk w w' := ⟨h.os, h.tape, h.output, h.size, fun k hk _ => h.block k hk⟩
theorem Keep.cell (h : Keep S w w') {p : Addr} (hp : p.block < w.heap.size) (hs : ¬ S p.block) : w'.cell? p = w.cell? p := World.cell?_of_block (w := w) (h.block _ hp hs)
theorem Keep.frozen (h : Keep S w w') {p : Addr} (hp : p.block < w.heap.size) (hs : ¬ S p.block) : w'.frozen? p = w.frozen? p := World.frozen?_of_block (w := w) (h.block _ hp hs)
end

/-! A slice that reads as a list of cells: nil and empty let in. -/
def Reads (w : World) (size : Nat) (A : Option Addr) (n : Nat) (xs : List Value) : Prop :=
  xs.length = n * size ∧ (0 < n * size → ∃ b off, A = some ⟨b, off, none⟩ ∧ b < w.heap.size ∧ ∀ j (hj : j < xs.length), w.cell? ⟨b, off + j, none⟩ = some xs[j])

section
variable {S : Nat → Prop} {w w' : World} {size n : Nat} {A : Option Addr} {xs : List Value}
theorem Reads.nil_ (w : World) (size : Nat) (A : Option Addr) : Reads w size A 0 [] := ⟨by simp, fun h => by simp at h⟩
theorem Reads.keep (h : Reads w size A n xs) (k : Keep S w w') (hs : ∀ a, A = some a → ¬ S a.block) : Reads w' size A n xs :=
  ⟨h.1, fun h0 => by
    obtain ⟨b, off, rfl, hb, hc⟩ := h.2 h0
    exact ⟨b, off, rfl, Nat.lt_of_lt_of_le hb k.size, fun j hj => (k.cell (p := ⟨b, off + j, none⟩) hb (hs ⟨b, off, none⟩ rfl)).trans (hc j hj)⟩⟩
theorem Reads.kept (h : Reads w size A n xs) (k : Keep noBlk w w') : Reads w' size A n xs := h.keep k fun _ _ => id
theorem Reads.at_ {k : Nat} (h : Reads w 1 A n xs) (hk : k < n) : ∃ b off, A = some ⟨b, off, none⟩ ∧ b < w.heap.size ∧ ∃ hx : k < xs.length, w.cell? ⟨b, off + k, none⟩ = some xs[k] := by
  obtain ⟨b, off, rfl, hb, hc⟩ := h.2 (by omega)
  have hx : k < xs.length := by have := h.1; omega
  exact ⟨b, off, rfl, hb, hx, hc k hx⟩
theorem Reads.of_own {base : Nat} {e : TypeId} {c : Nat} (h : w.ownsRow base e size (.slice A n c) n xs) : Reads w size A n xs := by
  refine ⟨h.1, fun hn => ?_⟩
  have hn' : 0 < n := Nat.pos_of_ne_zero fun e => by subst e; simp at hn
  obtain ⟨g, cap, hv, _, hlt⟩ := h.form hn'
  have hA : A = some ⟨g, 0, none⟩ := by injection hv
  subst hA
  refine ⟨g, 0, rfl, hlt, fun j hj => ?_⟩
  have := h.cells (g := g) rfl j xs[j] (List.getElem?_eq_getElem hj)
  simpa [Addr.add, Nat.zero_add] using (by by_cases h0 : j = 0 <;> simp_all [Addr.add])
theorem Reads.take (h : Reads w size A n xs) {k : Nat} (hk : k ≤ n) : Reads w size A k (xs.take (k * size)) := by
  refine ⟨by rw [List.length_take, h.1]; exact Nat.min_eq_left (Nat.mul_le_mul_right _ hk), fun h0 => ?_⟩
  obtain ⟨b, off, rfl, hb, hc⟩ := h.2 (Nat.lt_of_lt_of_le h0 (Nat.mul_le_mul_right _ hk))
  refine ⟨b, off, rfl, hb, fun j hj => ?_⟩
  have hj2 : j < xs.length := by simp at hj; omega
  rw [List.getElem_take]
  exact hc j hj2
end

/-! append onto a row of the call's own, the source nil, empty or not. -/
section
variable {P : Program} {w : World}

theorem run_append_empty (base : Nat) (t ty e : TypeId) (i : TypeInfo) (size : Nat) (ht : P.underlying t = some (.slice e)) (hi : P.info? e = some i)
    (v : Value) (n : Nat) (xs : List Value) (hown : w.ownsRow base e size v n xs) (c : Nat) : (Builtin.append_ #[t, t] ty #[v, .slice none 0 c]).run P w = .ok v w := by
  rcases hown.2 with ⟨rfl, rfl⟩ | ⟨g, cap, cur, rfl, _, _, hnc, _⟩
  · simp [Builtin.append_, run_underlying ht, sizeOf, typeInfo, hi, Builtin.lenOf, Builtin.firstCells]
  · simp [Builtin.append_, run_underlying ht, sizeOf, typeInfo, hi, Builtin.lenOf, Builtin.firstCells, hnc, storeCells]

theorem run_append_reads (base : Nat) (t ty e : TypeId) (i : TypeInfo) (z : Value) (size bytes : Nat) (ht : P.underlying t = some (.slice e)) (hi : P.info? e = some i) (hz : i.zero = some z)
    (hsize : i.size = size) (hby : i.bytes = bytes) (hzs : z.cells.size = size) (hsz : 0 < size)
    (v : Value) (n : Nat) (xs : List Value) (hown : w.ownsRow base e size v n xs)
    (A : Option Addr) (m c : Nat) (news : List Value) (hr : Reads w size A m news) (h1 : ∀ u ∈ news, u.oneCell' = true)
    (h63 : n + m ≤ maxLen) (hbytes : (n + m) * bytes ≤ 140737488355328) (hbase : base ≤ w.heap.size) :
    ∃ v' w', (Builtin.append_ #[t, t] ty #[v, .slice A m c]).run P w = .ok v' w' ∧ w'.ownsRow base e size v' (n + m) (xs ++ news) ∧ w.grownBy w' v.ownBlock ∧
      (v' = .slice none 0 0 → v = .slice none 0 0) ∧ (v'.ownBlock = v.ownBlock ∨ v'.ownBlock = some w.heap.size) := by
  rcases Nat.eq_zero_or_pos m with rfl | hm
  · have hnews : news = [] := List.eq_nil_of_length_eq_zero (by simpa using hr.1)
    subst hnews
    rcases A with _ | ad
    · exact ⟨v, w, run_append_empty base t ty e i size ht hi v n xs hown c, by simpa using hown, ⟨rfl, rfl, rfl, Nat.le_refl _, fun _ _ _ => rfl⟩, id, .inl rfl⟩
    · obtain ⟨v', w', h2, h3, h4, h5, h6⟩ := run_append_own_at (P := P) w base t ty e i z size bytes ht hi hz hsize hby hzs hsz v n xs hown ad 0 c [] (by simp) (by simp) (by simp) h63 hbytes hbase
      exact ⟨v', w', h2, h3, h4, fun h => (h5.1 h).1, h6⟩
  · obtain ⟨b, off, rfl, hb, hc⟩ := hr.2 (Nat.mul_pos hm hsz)
    obtain ⟨v', w', h2, h3, h4, h5, h6⟩ := run_append_own_at (P := P) w base t ty e i z size bytes ht hi hz hsize hby hzs hsz v n xs hown ⟨b, off, none⟩ m c news hr.1 (fun j u hu => by
      obtain ⟨hj, rfl⟩ := List.getElem?_eq_some_iff.1 hu
      rw [Go.WideShapes.add_plain]
      exact hc j hj) h1 h63 hbytes hbase
    exact ⟨v', w', h2, h3, h4, fun h => (h5.1 h).1, h6⟩

theorem wp_append_reads {o : Oper} {a : Act} {K : Act → World → Prop} {Q : Exit → Act → World → Prop} (s x : Operand) (t : TypeId)
    (ho : o.op = .call { callee := .builtin .append, args := #[s, x], argTypes := #[t, t] })
    (base : Nat) (e : TypeId) (i : TypeInfo) (z : Value) (size bytes : Nat) (ht : P.underlying t = some (.slice e)) (hi : P.info? e = some i) (hz : i.zero = some z)
    (hsize : i.size = size) (hby : i.bytes = bytes) (hzs : z.cells.size = size) (hsz : 0 < size)
    (v : Value) (n : Nat) (xs : List Value) (hs : a.eval s = v) (hown : w.ownsRow base e size v n xs)
    (A : Option Addr) (m c : Nat) (news : List Value) (hx : a.eval x = .slice A m c) (hr : Reads w size A m news) (h1 : ∀ u ∈ news, u.oneCell' = true)
    (h63 : n + m ≤ maxLen) (hbytes : (n + m) * bytes ≤ 140737488355328) (hbase : base ≤ w.heap.size)
    (h : ∀ v' w', w'.ownsRow base e size v' (n + m) (xs ++ news) → w.grownBy w' v.ownBlock → (v' = .slice none 0 0 → v = .slice none 0 0) → (v'.ownBlock = v.ownBlock ∨ v'.ownBlock = some w.heap.size) → K (a.put o.dst v') w') : o.wp P a w K Q := by
  obtain ⟨v', w', hrun, h2, h3, h4, h5⟩ := run_append_reads (P := P) (w := w) base t o.type e i z size bytes ht hi hz hsize hby hzs hsz v n xs hown A m c news hr h1 h63 hbytes hbase
  unfold Oper.wp execOp
  simp only [ho, resolve, invoke, builtin, Sem.run_bind, Sem.run_pure, Result.andThen_ok, List.map_toArray, List.map_cons, List.map_nil, hs, hx, hrun]
  exact h v' w' h2 h3 h4 h5

theorem wpList_append_reads {ops : Array Oper} {rest : List Oper} {o : Oper} {a : Act} {Q : Exit → Act → World → Prop} (hgd : o.guard = none) (s x : Operand) (t : TypeId)
    (ho : o.op = .call { callee := .builtin .append, args := #[s, x], argTypes := #[t, t] })
    (base : Nat) (e : TypeId) (i : TypeInfo) (z : Value) (size bytes : Nat) (ht : P.underlying t = some (.slice e)) (hi : P.info? e = some i) (hz : i.zero = some z)
    (hsize : i.size = size) (hby : i.bytes = bytes) (hzs : z.cells.size = size) (hsz : 0 < size)
    (v : Value) (n : Nat) (xs : List Value) (hs : a.eval s = v) (hown : w.ownsRow base e size v n xs)
    (A : Option Addr) (m c : Nat) (news : List Value) (hx : a.eval x = .slice A m c) (hr : Reads w size A m news) (h1 : ∀ u ∈ news, u.oneCell' = true)
    (h63 : n + m ≤ maxLen) (hbytes : (n + m) * bytes ≤ 140737488355328) (hbase : base ≤ w.heap.size)
    (h : ∀ v' w', w'.ownsRow base e size v' (n + m) (xs ++ news) → w.grownBy w' v.ownBlock → (v' = .slice none 0 0 → v = .slice none 0 0) → (v'.ownBlock = v.ownBlock ∨ v'.ownBlock = some w.heap.size) → wpList P ops Q rest (a.put o.dst v') w') : wpList P ops Q (o :: rest) a w :=
  wpList_plain hgd fun _ hK => wp_append_reads s x t ho base e i z size bytes ht hi hz hsize hby hzs hsz v n xs hs hown A m c news hx hr h1 h63 hbytes hbase fun v' w' h2 h3 h4 h5 => hK _ _ (h v' w' h2 h3 h4 h5)
end

/-- Numbers of 64 bits. -/
def Ints (ns : List Int) : Prop := ∀ n ∈ ns, -9223372036854775808 ≤ n ∧ n ≤ 9223372036854775807
def ints (ns : List Int) : List Value := ns.map (Value.int .i64)
theorem ints_one (ns : List Int) : ∀ u ∈ ints ns, u.oneCell' = true := by
  intro u hu
  obtain ⟨n, _, rfl⟩ := List.mem_map.1 hu
  rfl

/-- An element type's row of the table, taken apart. -/
theorem info_of {P : Program} {e : TypeId} {z : Option Value} {s b : Nat} (h : (P.info? e).map (fun i => (i.zero, i.size, i.bytes)) = some (z, s, b)) : ∃ i, P.info? e = some i ∧ i.zero = z ∧ i.size = s ∧ i.bytes = b := by
  cases hi : P.info? e with
  | none => rw [hi] at h; cases h
  | some i =>
    rw [hi] at h
    simp only [Option.map_some, Option.some.injEq, Prod.mk.injEq] at h
    exact ⟨i, rfl, h.1, h.2.1, h.2.2⟩

/-! The greater and the lesser of two, taken by the walk as one number. -/
def maxI (x y : Int) : Int := if y > x then y else x
def minI (x y : Int) : Int := if y < x then y else x
theorem maxI_eq (x y : Int) : maxI x y = max x y := by unfold maxI; omega
theorem minI_eq (x y : Int) : minI x y = min x y := by unfold minI; omega
theorem run_maxI {P : Program} {w : World} (ts : Array TypeId) (t : TypeId) (k k' : IntKind) (x y : Int) : (Builtin.max_ ts t #[.int k x, .int k' y]).run P w = .ok (.int k (maxI x y)) w := run_max_int2 w ts t k k' x y
theorem run_minI {P : Program} {w : World} (ts : Array TypeId) (t : TypeId) (k k' : IntKind) (x y : Int) : (Builtin.min_ ts t #[.int k x, .int k' y]).run P w = .ok (.int k (minI x y)) w := run_min_int2 w ts t k k' x y

theorem Keep.rule_at {W w1 : World} (h : Keep noBlk W w1) {N : Nat} (hN : N ≤ W.heap.size) : (∀ b o, b < N → w1.cell? ⟨b, o, none⟩ = W.cell? ⟨b, o, none⟩) ∧ (∀ b o, b < N → w1.frozen? ⟨b, o, none⟩ = W.frozen? ⟨b, o, none⟩) :=
  ⟨fun b o hb => h.cell (p := ⟨b, o, none⟩) (Nat.lt_of_lt_of_le hb hN) id, fun b o hb => h.frozen (p := ⟨b, o, none⟩) (Nat.lt_of_lt_of_le hb hN) id⟩
/-- A cell that was there is there still. -/
theorem Keep.hold {w w1 : World} (h : Keep noBlk w w1) {p : Addr} {v : Value} (hc : w.cell? p = some v) : w1.cell? p = some v := by
  have hb : p.block < w.heap.size := by
    rcases Nat.lt_or_ge p.block w.heap.size with hlt | hge
    · exact hlt
    · have := World.cell?_of_block (w := w) (w' := { w with heap := #[] }) (a := p) (by rw [Array.getElem?_eq_none hge]; simp)
      rw [hc] at this
      simp [World.cell?] at this
  rw [h.cell hb id]; exact hc
/-- What a callee's world keeps, in the walk's words. -/
theorem Keep.rules {W w1 : World} (h : Keep noBlk W w1) : (∀ b o, b < W.heap.size → w1.cell? ⟨b, o, none⟩ = W.cell? ⟨b, o, none⟩) ∧ (∀ b o, b < W.heap.size → w1.frozen? ⟨b, o, none⟩ = W.frozen? ⟨b, o, none⟩) ∧ W.heap.size ≤ w1.heap.size :=
  ⟨fun b o hb => h.cell (p := ⟨b, o, none⟩) hb id, fun b o hb => h.frozen (p := ⟨b, o, none⟩) hb id, h.size⟩

/-! A region that draws its order, whose operations read, and whose callees keep what a class of worlds asks: one walk in the order of the text. -/
theorem wp_region_class {P : Program} {T : Type} [Nonempty T] (W : T → World) {id : Nat} {Q : Exit → Act → World → Prop} {a : Act} {w : World} {l : List Oper} (hm : P.follows .mixedOrders = true) (hB : Region.lexB .any l.toArray = true) (h0 : ∃ x, w.drew = W x)
    (h : wpQuiet P l.toArray (fun w' => ∃ x, w' = W x) (fun a' => ∀ w', (∃ x, w' = W x) → Q .normal a' w') l a) : (Code.region id l.toArray true).wp P Q a w :=
  wp_region_quiet (C := fun w' => ∃ x, w' = W x) hm hB h0 (by simpa using h)

/-- The worlds that are good, by a letter: the walk reads their cells off rules. -/
theorem class_of (Good : World → Prop) {w : World} (h : Good w.drew) :
    ∃ (T : Type) (_ : Nonempty T) (W : T → World), (∃ x, w.drew = W x) ∧ (∀ x, Good (W x)) ∧ Hid (∀ w', Good w' → ∃ x, w' = W x) :=
  ⟨{ w' : World // Good w' }, ⟨⟨_, h⟩⟩, Subtype.val, ⟨⟨_, h⟩, rfl⟩, fun x => x.2, fun w' hw => ⟨⟨w', hw⟩, rfl⟩⟩

/-- A callee that keeps what was there, met inside such a region. -/
theorem class_call {P : Program} {T : Type} {W : T → World} {Good : World → Prop} (HC : Hid (∀ w', Good w' → ∃ x, w' = W x)) (hg : Hid (∀ x, Good (W x))) (hs : Hid (∀ w w1, Good w → Keep noBlk w w1 → Good w1)) {f : FuncId} {args : Array Value} {v : Value} {x : T}
    (h : Calls P f args (W x) fun e w' => e = .returned v ∧ Keep noBlk (W x) w') : Calls P f args (W x) fun e w'' => e = .returned v ∧ ∃ y, w'' = W y :=
  h.mono fun _ w1 ⟨he, hk⟩ => ⟨he, HC w1 (hs _ _ (hg x) hk)⟩
theorem class_same {P : Program} {T : Type} {W : T → World} {f : FuncId} {args : Array Value} {v : Value} {x : T}
    (h : Calls P f args (W x) fun e w' => e = .returned v ∧ W x = w') : Calls P f args (W x) fun e w'' => e = .returned v ∧ ∃ y, w'' = W y :=
  h.mono fun _ _ ⟨he, hk⟩ => ⟨he, x, hk.symm⟩

/-- The same, the class being all worlds that keep what was there when the region began. -/
theorem wp_region_keep {P : Program} {id : Nat} {Q : Exit → Act → World → Prop} {a : Act} {w : World} {l : List Oper} (hm : P.follows .mixedOrders = true) (hB : Region.lexB .any l.toArray = true)
    (h : ∀ (T : Type) (_ : Nonempty T) (WW : T → World), (∀ x, Keep noBlk w (WW x)) → Hid (∀ w', Keep noBlk w w' → ∃ x, w' = WW x) →
      wpQuiet P l.toArray (fun w' => ∃ x, w' = WW x) (fun a' => ∀ w', (∃ x, w' = WW x) → Q .normal a' w') l a) : (Code.region id l.toArray true).wp P Q a w := by
  obtain ⟨T, hT, WW, h0, hg, HC⟩ := class_of (Keep noBlk w) (w := w) (Keep.refl noBlk w).drew
  exact wp_region_class WW hm hB h0 (h T hT WW hg HC)
theorem keep_rules_at {T : Type} {W : World} {WW : T → World} (h : ∀ x, Keep noBlk W (WW x)) {N : Nat} (hN : N ≤ W.heap.size) :
    (∀ x b o, b < N → (WW x).cell? ⟨b, o, none⟩ = W.cell? ⟨b, o, none⟩) ∧ (∀ x b o, b < N → (WW x).frozen? ⟨b, o, none⟩ = W.frozen? ⟨b, o, none⟩) ∧ (∀ x, N ≤ (WW x).heap.size) :=
  ⟨fun x b o hb => (h x).cell (p := ⟨b, o, none⟩) (Nat.lt_of_lt_of_le hb hN) id, fun x b o hb => (h x).frozen (p := ⟨b, o, none⟩) (Nat.lt_of_lt_of_le hb hN) id, fun x => Nat.le_trans hN (h x).size⟩
theorem keep_call {P : Program} {T : Type} {W : World} {WW : T → World} (HC : Hid (∀ w', Keep noBlk W w' → ∃ x, w' = WW x)) (hg : Hid (∀ x, Keep noBlk W (WW x))) {f : FuncId} {args : Array Value} {v : Value} {x : T}
    (h : Calls P f args (WW x) fun e w' => e = .returned v ∧ Keep noBlk (WW x) w') : Calls P f args (WW x) fun e w'' => e = .returned v ∧ ∃ y, w'' = WW y :=
  h.mono fun _ w1 ⟨he, hk⟩ => ⟨he, HC w1 ((hg x).trans hk)⟩
end Go.Proofs.Ytmgkmammkmlakaa
