/- The frame of a law: from a walk that returns true and writes nothing that was there before, to the law's row; and how arguments of plain numbers are opened. -/
import Derived.Test.YtioamnghkmcbbaaGreatMem
import Derived.WalkKit
import Derived.ProofKit
import Derived.OpenShut
import Derived.Deep.Slices
import Derived.Lib.Hide
namespace Go.Proofs.YtioamnghkmcbbaaGreat
open Go.ChangeShapes Go.WideShapes Go.ChangeAt Go.RowKit Go.Deep

section
variable {H : Type} {enc : TypeId × Value → H} {P : Program}

/-- Arguments read the same again in a world that keeps all that was there. -/
theorem all_again (hl : laidOutB P = true) {W W' : World} (hb : Below W.heap.size W W') : ∀ (ts : List TypeId) (vs : List Value) (ds : List (DataW H)) (ps : List MemPlace),
    (ts.all fun t => P.readableRec t && decide (t < P.types.size)) = true → DataW.TrodAll enc P W 0 (fun _ => true) true ts vs ds ps → (∀ x ∈ ps, x.block < W.heap.size) →
    DataW.TrodAll enc P W' 0 (fun b => decide (b < W.heap.size)) true ts vs ds ps := by
  intro ts
  induction ts with
  | nil =>
    intro vs ds ps _ h _
    obtain ⟨rfl, rfl, rfl⟩ := trodAll_nil h
    exact trodAll_mk0
  | cons t ts ih =>
    intro vs ds ps ht h hlt
    obtain ⟨v, vs', d, ds', p, q, rfl, rfl, rfl, h0, hr⟩ := trodAll_cons h
    rw [List.all_cons, Bool.and_eq_true, Bool.and_eq_true] at ht
    exact trodAll_cons_mk (Below.trod hl ht.1.1 (of_decide_eq_true ht.1.2) h0 hb (fun x hx => hlt x (List.mem_append.2 (.inl hx)))) (ih _ _ _ ht.2 hr (fun x hx => hlt x (List.mem_append.2 (.inr hx))))

/-- The row's last step for a law: it returned true, and all that was there reads as it did. -/
theorem law_post (hl : laidOutB P = true) {f : Func} {s : ChangeSpec} {W W' : World} {args : Array Value} {ds : List (DataW H)} {before : List MemPlace} {tb : TypeId} (hvars : s.vars = []) (hres : f.resultTypes = #[tb]) (htb : P.underlying tb = some .bool)
    (ht : (f.params.toList.all fun t => P.readableRec t && decide (t < P.types.size)) = true)
    (hW : DataW.Whole enc P f.params.toList s.vars false W args.toList ds [] before)
    (hs : s.fn H (ds ++ []) = { results := [.lit (.bool true)], args := ds }) (hb : Below W.heap.size W W') :
    s.post enc P f false true false false W args (.bool true) W' := by
  have hlt : ∀ p ∈ before, p.block < W.heap.size := hW.lt
  have hW2 := hW
  obtain ⟨p, q, hA, hV, rfl, _, _⟩ := hW
  rw [hvars] at hV
  obtain ⟨_, rfl⟩ := trodVars_none hV
  refine ⟨ds, [], p ++ [], [], p, [], hW2, ?_, ?_, ?_, ?_, fun h => by cases h⟩
  · rw [hs, hres]
    exact trodAll_mk1 (shut_bool htb true)
  · rw [hs]
    exact all_again hl hb _ _ _ _ ht hA (fun x hx => hlt x (List.mem_append.2 (.inl hx)))
  · rw [hs, hvars]
    rfl
  · exact hb.frame _

/-! Data that are plain numbers, of whatever depth. -/
def flatInts (P : Program) : Nat → TypeId → Bool
  | 0, _ => false
  | d + 1, t =>
    match P.underlying t with
    | some (.int .i64) => true
    | some (.struct fs) => (List.range (P.cellsOf t)).all fun j => fs.toList.any fun f => decide (f.offset ≤ j) && decide (j < f.offset + P.cellsOf f.type) && flatInts P d f.type
    | _ => false

/-- Cells that are numbers of 64 bits. -/
def IntCells (cs : List Value) (ns : List Int) : Prop := cs = ns.map (Value.int .i64) ∧ ∀ n ∈ ns, -9223372036854775808 ≤ n ∧ n ≤ 9223372036854775807

theorem intCells_of (cs : List Value) (h : ∀ j (hj : j < cs.length), ∃ n : Int, cs[j] = .int .i64 n ∧ -9223372036854775808 ≤ n ∧ n ≤ 9223372036854775807) : ∃ ns, IntCells cs ns := by
  induction cs with
  | nil => exact ⟨[], rfl, fun _ hn => by cases hn⟩
  | cons c cs ih =>
    obtain ⟨ns, e, hb⟩ := ih fun j hj => h (j + 1) (by simp; omega)
    obtain ⟨n, en, hn⟩ := h 0 (by simp)
    refine ⟨n :: ns, by simp only [List.getElem_cons_zero] at en; rw [en, e]; rfl, fun m hm => ?_⟩
    rcases List.mem_cons.1 hm with rfl | hm
    · exact hn
    · exact hb m hm

theorem flat_cells {w : World} {base : Nat} {spare : Nat → Bool} {held : Bool} : ∀ (d : Nat) (t : TypeId) (fuel : Nat) (cs : List Value) (x : DataW H × List MemPlace),
    flatInts P d t = true → DataW.trod enc P w base spare held fuel t cs = some x →
    ∀ j (hj : j < cs.length), ∃ n : Int, cs[j] = .int .i64 n ∧ -9223372036854775808 ≤ n ∧ n ≤ 9223372036854775807 := by
  intro d
  induction d with
  | zero => intro t fuel cs x h; simp [flatInts] at h
  | succ d ih =>
    intro t fuel cs x h hx j hj
    unfold flatInts at h
    split at h
    · rename_i ht
      obtain ⟨n, rfl, _, hwf⟩ := DataW.trod_int ht hx
      have : j = 0 := by simp at hj; omega
      subst this
      exact ⟨n, rfl, bounds_i64 hwf⟩
    · rename_i fs ht
      obtain ⟨xs, n, _, _, hlen, hxl, hf⟩ := DataW.trod_struct ht hx
      rw [List.all_eq_true] at h
      have hj' := h j (List.mem_range.2 (by omega))
      rw [List.any_eq_true] at hj'
      obtain ⟨f, hfm, hft⟩ := hj'
      simp only [Bool.and_eq_true, decide_eq_true_eq] at hft
      obtain ⟨⟨h1, h2⟩, h3⟩ := hft
      obtain ⟨i, hi, hfi⟩ := List.getElem_of_mem hfm
      have hg := hf i f (by rw [← hfi]; simp)
      have hi2 : i < xs.length := by rw [hxl]; simpa using hi
      rw [List.getElem?_eq_getElem hi2] at hg
      have hk : j - f.offset < ((cs.drop f.offset).take (P.cellsOf f.type)).length := by simp; omega
      obtain ⟨n, e, hn⟩ := ih _ _ _ _ h3 hg (j - f.offset) hk
      refine ⟨n, ?_, hn⟩
      rw [List.getElem_take, List.getElem_drop] at e
      rw [← e]
      congr 1
      omega
    · cases h

/-- A value of plain numbers: a number, or a struct of numbers. -/
theorem open_flat {r : Reach} {b0 : Nat} {w : World} {base : Nat} {spare : Nat → Bool} {held : Bool} {t : TypeId} {fs : Array Field} {v : Value} {d : DataW H} {p : List MemPlace} (ht : P.underlying t = some (.struct fs)) (hfl : flatInts P 8 t = true)
    (hv : Value.okWide P w r b0 t v) (h : DataW.Trod enc P w base spare held t v d p) :
    ∃ ns : List Int, v = .agg (ns.map (Value.int .i64)).toArray ∧ ns.length = P.cellsOf t ∧ ∀ n ∈ ns, -9223372036854775808 ≤ n ∧ n ≤ 9223372036854775807 := by
  obtain ⟨cs, rfl, hsz⟩ := okWide_struct ht hv
  obtain ⟨fuel, hf⟩ := h
  obtain ⟨ns, e, hb⟩ := intCells_of cs.toList (flat_cells 8 t fuel cs.toList _ hfl hf)
  refine ⟨ns, by rw [← e], ?_, hb⟩
  rw [← hsz, ← Array.length_toList, e, List.length_map]


theorem add_of_add (a : Addr) (i j : Nat) : (a.add i).add j = a.add (i + j) := Go.Deep.add_add a i j
theorem block_of_add (a : Addr) (n : Nat) : (a.add n).block = a.block := by unfold Addr.add; split <;> rfl

theorem cell_lt {w : World} {a : Addr} {v : Value} (h : w.cell? a = some v) : a.block < w.heap.size := by
  rcases Nat.lt_or_ge a.block w.heap.size with hlt | hge
  · exact hlt
  · have := World.cell?_of_block (w := w) (w' := { w with heap := #[] }) (a := a) (by rw [Array.getElem?_eq_none hge]; simp)
    rw [h] at this
    simp [World.cell?] at this

theorem open_flat_slice {r : Reach} {b0 : Nat} {w : World} {base : Nat} {held : Bool} {t e : TypeId} {v : Value} {d : DataW H} {p : List MemPlace} (ht : P.underlying t = some (.slice e)) (hfl : flatInts P 8 e = true) (hpos : 0 < P.cellsOf e)
    (hv : Value.okWide P w r b0 t v) (h : DataW.Trod enc P w base (fun _ => true) held t v d p) :
    ∃ A len cap ns, v = .slice A len cap ∧ len ≤ cap ∧ cap ≤ maxLen ∧ Ints ns ∧ Reads w (P.cellsOf e) A len (ints ns) := by
  obtain ⟨A, len, cap, rfl⟩ := okWide_slice ht hv
  obtain ⟨fuel, hf⟩ := h
  rcases Go.Deep.open_slice ht hf with ⟨hcs, _⟩ | ⟨a, len', cap', m, n, D, Pl, hcs, _, hl, hm, hmm, _, hx⟩
  · simp [Value.cells] at hcs
    obtain ⟨rfl, rfl, rfl⟩ := hcs
    exact ⟨none, 0, 0, [], rfl, Nat.le_refl _, Nat.zero_le _, (fun _ h => by cases h), Reads.nil_ _ _ _⟩
  · simp [Value.cells] at hcs
    obtain ⟨rfl, rfl, rfl⟩ := hcs
    have hm2 : m = cap := by rw [hmm, if_pos rfl]
    -- every cell of an element is a number
    have hcell : ∀ j, j < len * P.cellsOf e → ∃ n : Int, w.cell? (a.add j) = some (.int .i64 n) ∧ -9223372036854775808 ≤ n ∧ n ≤ 9223372036854775807 := by
      intro j hj
      have hi : j / P.cellsOf e < m := by
        rw [hm2]
        exact Nat.lt_of_lt_of_le ((Nat.div_lt_iff_lt_mul hpos).2 hj) hl
      obtain ⟨cs', hc, htr⟩ := hx _ hi
      obtain ⟨_, hlen, hat⟩ := World.cells?_some hc
      have hr : j % P.cellsOf e < cs'.length := by rw [hlen]; exact Nat.mod_lt _ hpos
      obtain ⟨n, en, hn⟩ := flat_cells 8 e _ cs' _ hfl htr _ hr
      refine ⟨n, ?_, hn⟩
      have := hat (j % P.cellsOf e) (Nat.mod_lt _ hpos)
      rw [Go.Deep.add_add, List.getElem?_eq_getElem hr, en, Nat.div_add_mod' j] at this
      exact this
    obtain ⟨f, hfn⟩ := Go.Deep.choose_lt (α := Int) hcell
    refine ⟨some a, len, cap, (List.range (len * P.cellsOf e)).map f, rfl, hl, hm, ?_, by simp [ints], fun h0 => ?_⟩
    · intro n hn
      obtain ⟨j, hj, rfl⟩ := List.mem_map.1 hn
      exact (hfn j (List.mem_range.1 hj)).2
    · obtain ⟨b, off, spot⟩ := a
      have hspot : spot = none := by simpa [Addr.add] using World.cell?_spot (hfn 0 h0).1
      subst hspot
      refine ⟨b, off, rfl, by simpa [block_of_add] using cell_lt (hfn 0 h0).1, fun j hj => ?_⟩
      simp only [ints, List.length_map, List.length_range] at hj
      simp only [ints, List.getElem_map, List.getElem_range]
      rw [← Go.WideShapes.add_plain]
      exact (hfn j hj).1
end
end Go.Proofs.YtioamnghkmcbbaaGreat
