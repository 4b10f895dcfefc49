/- From a contract to what a law's row asks. -/
import Derived.Test.YtmgkmammkmlakaaFrame
import Derived.Test.YtmgkmammkmlakaaApp
namespace Go.Proofs.Ytmgkmammkmlakaa
open Go.RowKit
set_option linter.unusedVariables false

/-- A law that holds by its contract: it returns true, and nothing old has turned. -/
theorem law_of_ctr {P : Program} {f : FuncId} {args : Array Value} {w : World} (h : Ctr P f args [old w.hm] fun v L' => v = .bool true ∧ L' = [old w.hm]) :
    Calls P f args w fun e w' => e = .returned (.bool true) ∧ Below w.heap.size w w' := by
  refine (calls_of h (Hp.start w)).mono fun e w' ⟨v, L', e1, ⟨e2, e3⟩, hw'⟩ => ?_
  subst e2 e3
  exact ⟨e1, hw'.below⟩
/-- What a slice of numbers reads as. -/
theorem rc_of_reads {w : World} {sz : Nat} {A : Option Addr} {n : Nat} {xs : List Value} (hsz : 0 < sz) (h : Reads w sz A n xs) : Rc [old w.hm] sz A n xs := by
  refine ⟨h.1, fun h0 => ?_⟩
  obtain ⟨b, o, rfl, hb, hc⟩ := h.2 (Nat.mul_pos h0 hsz)
  refine ⟨b, o, rfl, fun j v hj => Ld.old ?_⟩
  obtain ⟨h1, rfl⟩ := List.getElem?_eq_some_iff.1 hj
  exact hc j h1
end Go.Proofs.Ytmgkmammkmlakaa
