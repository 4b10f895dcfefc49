/- The library's functions that take a function, and lists in order, at points. -/
import Derived.Test.YtmgkmammkmlakaaStd
namespace Go.Proofs.Ytmgkmammkmlakaa
set_option linter.unusedVariables false
set_option linter.unusedSimpArgs false
set_option maxRecDepth 100000

@[reducible] def Pt.v (p : Pt) : Value := .agg #[.int .i64 p.id, .int .i64 p.x, .int .i64 p.y]
/-- .. and how much room there is. -/
def MadeC (T : TypeId) {α : Type} [E : Enc α] (l : List α) (L : List HP) (v : Value) (L' : List HP) : Prop := ∃ A c, v = .slice A l.length c ∧ (0 < l.length → ∃ b, A = some ⟨b, 0, none⟩) ∧ l.length ≤ c ∧ c ≤ maxLen ∧ L' = own T E.sz A l.length c (flat l) :: L
theorem Ctr.made {P : Program} {f : FuncId} {args : Array Value} {L0 L : List HP} {T : TypeId} {α : Type} [E : Enc α] {l : List α} (h : Ctr P f args L0 fun v L' => Made T l L v L') : Ctr P f args L0 fun v L' => MadeC T l L v L' := fun g F w hw =>
  (h g F w hw).mono fun e w' ⟨v, L', e1, ⟨A, c, e2, e3, e4⟩, hw'⟩ => by
    subst e4
    have q := own.facts hw'.s.tail
    exact ⟨v, _, e1, ⟨A, c, e2, e3, q.2.1, q.2.2.1, rfl⟩, hw'⟩
end Go.Proofs.Ytmgkmammkmlakaa
