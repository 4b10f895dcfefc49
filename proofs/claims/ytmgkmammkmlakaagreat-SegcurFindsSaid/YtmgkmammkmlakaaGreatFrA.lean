/- The frame for a parameter that is an array of numbers of 64 bits. -/
import Derived.Test.YtmgkmammkmlakaaGreatFrame
import Derived.WideKeyArr2
namespace Go.Proofs.YtmgkmammkmlakaaGreat
open Go.ChangeShapes Go.WideShapes Go.ChangeAt Go.RowKit
set_option linter.unusedVariables false

def arrInts (P : Program) (t : TypeId) : Bool :=
  match P.underlying t with
  | some (.array n e) => (match P.underlying e with | some (.int .i64) => decide (P.cellsOf e = 1 ∧ P.cellsOf t = n) | _ => false)
  | _ => false

theorem arrInts_elim {P : Program} {t e : TypeId} {n : Nat} (ht : P.underlying t = some (.array n e)) (h : arrInts P t = true) :
    P.underlying e = some (.int .i64) ∧ P.cellsOf e = 1 ∧ P.cellsOf t = n := by
  unfold arrInts at h
  rw [ht] at h
  simp only at h
  split at h
  · rename_i he
    exact ⟨he, of_decide_eq_true h⟩
  · cases h

theorem open_flat_arr {H : Type} {enc : TypeId × Value → H} {P : Program} {r : Reach} {b0 : Nat} {w : World} {base : Nat} {spare : Nat → Bool} {held : Bool} {t e : TypeId} {n : Nat} {v : Value} {d : DataW H} {p : List MemPlace}
    (ht : P.underlying t = some (.array n e)) (hfl : arrInts P t = true)
    (hv : Value.okWide P w r b0 t v) (h : DataW.Trod enc P w base spare held t v d p) :
    ∃ ns : List Int, v = .agg (ns.map (Value.int .i64)).toArray ∧ ns.length = P.cellsOf t ∧ ∀ n ∈ ns, -9223372036854775808 ≤ n ∧ n ≤ 9223372036854775807 := by
  obtain ⟨he, hc, hs⟩ := arrInts_elim ht hfl
  have hag : ∃ cs, v = .agg cs ∧ cs.size = P.cellsOf t := by
    simp only [Value.okWide, ht] at hv
    obtain ⟨cs, h1, h2, _⟩ := hv
    exact ⟨cs, h1, h2⟩
  obtain ⟨cs, rfl, hsz⟩ := hag
  obtain ⟨fuel, hf⟩ := h
  have hcell : ∀ j (hj : j < cs.toList.length), ∃ n : Int, cs.toList[j] = .int .i64 n ∧ -9223372036854775808 ≤ n ∧ n ≤ 9223372036854775807 := by
    intro j hj
    obtain ⟨xs, m, _, _, hlen, hxl, hg⟩ := DataW.trod_array ht hf
    have hjn : j < n := by rw [← hs, ← hsz]; simpa using hj
    have h1 := hg j hjn
    have hi2 : j < xs.length := by omega
    rw [List.getElem?_eq_getElem hi2, hc, Nat.mul_one] at h1
    obtain ⟨a, ea, _, hwf⟩ := DataW.trod_int he h1
    refine ⟨a, ?_, bounds_i64 hwf⟩
    have hd : List.drop j cs.toList = cs.toList[j] :: List.drop (j + 1) cs.toList := List.drop_eq_getElem_cons hj
    have ea' : (List.drop j cs.toList).take 1 = [Value.int .i64 a] := ea
    rw [hd] at ea'
    simpa using ea'
  obtain ⟨ns, e', hb⟩ := intCells_of cs.toList hcell
  refine ⟨ns, by rw [← e'], ?_, hb⟩
  rw [← hsz, ← Array.length_toList, e', List.length_map]

end Go.Proofs.YtmgkmammkmlakaaGreat
