/- The frame for a parameter that is a struct of two slices of plain numbers. -/
import Derived.Test.YtcdafmmfcjbodaaFrame
namespace Go.Proofs.Ytcdafmmfcjbodaa
open Go.ChangeShapes Go.WideShapes Go.ChangeAt Go.RowKit
set_option linter.unusedVariables false

theorem open_slice_cells {H : Type} {enc : TypeId × Value → H} {P : Program} {w : World} {base : Nat} {held : Bool} {t e : TypeId} {cs : List Value} {fuel : Nat} {x : DataW H × List MemPlace} (ht : P.underlying t = some (.slice e)) (hfl : flatInts P 8 e = true) (hpos : 0 < P.cellsOf e)
    (hf : DataW.trod enc P w base (fun _ => true) held fuel t cs = some x) :
    ∃ A len cap ns, cs = [.slice A len cap] ∧ len ≤ cap ∧ cap ≤ maxLen ∧ Reads w (P.cellsOf e) A len (ints ns) := by
  rcases Go.Deep.open_slice ht hf with ⟨hcs, _⟩ | ⟨a, len', cap', m, n, D, Pl, hcs, _, hl, hm, hmm, _, hx⟩
  · subst hcs
    exact ⟨none, 0, 0, [], rfl, Nat.le_refl _, Nat.zero_le _, Reads.nil_ _ _ _⟩
  · subst hcs
    have hm2 : m = cap' := by rw [hmm, if_pos rfl]
    have hcell : ∀ j, j < len' * P.cellsOf e → ∃ n : Int, w.cell? (a.add j) = some (.int .i64 n) ∧ -9223372036854775808 ≤ n ∧ n ≤ 9223372036854775807 := by
      intro j hj
      have hi : j / P.cellsOf e < m := by
        rw [hm2]
        exact Nat.lt_of_lt_of_le ((Nat.div_lt_iff_lt_mul hpos).2 hj) hl
      obtain ⟨cs', hc, htr⟩ := hx _ hi
      obtain ⟨_, hlen, hat⟩ := World.cells?_some hc
      have hr : j % P.cellsOf e < cs'.length := by rw [hlen]; exact Nat.mod_lt _ hpos
      obtain ⟨n, en, hn⟩ := flat_cells 8 e _ cs' _ hfl htr _ hr
      refine ⟨n, ?_, hn⟩
      have := hat (j % P.cellsOf e) (Nat.mod_lt _ hpos)
      rw [Go.Deep.add_add, List.getElem?_eq_getElem hr, en, Nat.div_add_mod' j] at this
      exact this
    obtain ⟨f, hfn⟩ := Go.Deep.choose_lt (α := Int) hcell
    refine ⟨some a, len', cap', (List.range (len' * P.cellsOf e)).map f, rfl, hl, hm, by simp [ints], fun h0 => ?_⟩
    obtain ⟨b, off, spot⟩ := a
    have hspot : spot = none := by simpa [Addr.add] using World.cell?_spot (hfn 0 h0).1
    subst hspot
    refine ⟨b, off, rfl, by simpa [block_of_add] using cell_lt (hfn 0 h0).1, fun j hj => ?_⟩
    simp only [ints, List.length_map, List.length_range] at hj
    simp only [ints, List.getElem_map, List.getElem_range]
    rw [← Go.WideShapes.add_plain]
    exact (hfn j hj).1
/-- Two slices, as a struct. -/
theorem open_two_slices {H : Type} {enc : TypeId × Value → H} {P : Program} {r : Reach} {b0 : Nat} {w : World} {base : Nat} {held : Bool} {t t1 t2 e1 e2 : TypeId} {f1 f2 : Field} {v : Value} {d : DataW H} {p : List MemPlace} (ht : P.underlying t = some (.struct #[f1, f2]))
    (k1 : f1.type = t1 ∧ f1.offset = 0 ∧ P.cellsOf t1 = 1 ∧ P.underlying t1 = some (.slice e1) ∧ flatInts P 8 e1 = true ∧ 0 < P.cellsOf e1)
    (k2 : f2.type = t2 ∧ f2.offset = 1 ∧ P.cellsOf t2 = 1 ∧ P.underlying t2 = some (.slice e2) ∧ flatInts P 8 e2 = true ∧ 0 < P.cellsOf e2) (hc : P.cellsOf t = 2)
    (hv : Value.okWide P w r b0 t v) (h : DataW.Trod enc P w base (fun _ => true) held t v d p) :
    ∃ A n c ns B m q ms, v = .agg #[.slice A n c, .slice B m q] ∧ n ≤ c ∧ c ≤ maxLen ∧ Reads w (P.cellsOf e1) A n (ints ns) ∧ m ≤ q ∧ q ≤ maxLen ∧ Reads w (P.cellsOf e2) B m (ints ms) := by
  obtain ⟨cs, rfl, hsz⟩ := okWide_struct ht hv
  obtain ⟨fuel, hf⟩ := h
  obtain ⟨xs, n, _, _, hlen, hxl, hg⟩ := DataW.trod_struct ht hf
  rw [hc] at hsz
  have hx : xs.length = 2 := by simpa using hxl
  have g1 := hg 0 f1 rfl
  have g2 := hg 1 f2 rfl
  rw [List.getElem?_eq_getElem (by omega)] at g1 g2
  obtain ⟨a1, a2, a3, a4, a5, a6⟩ := k1
  obtain ⟨c1, c2, c3, c4, c5, c6⟩ := k2
  rw [a1, a2, a3] at g1
  rw [c1, c2, c3] at g2
  obtain ⟨A, n, c, ns, q1, q2, q3, q4⟩ := open_slice_cells a4 a5 a6 g1
  obtain ⟨B, m, q, ms, r1, r2, r3, r4⟩ := open_slice_cells c4 c5 c6 g2
  refine ⟨A, n, c, ns, B, m, q, ms, ?_, q2, q3, q4, r2, r3, r4⟩
  obtain ⟨l⟩ := cs
  have hl : l.length = 2 := by simpa using hsz
  match l, hl with
  | [x, y], _ =>
    simp only [Value.cells] at q1 r1
    simp at q1 r1
    rw [q1, r1]
end Go.Proofs.Ytcdafmmfcjbodaa
