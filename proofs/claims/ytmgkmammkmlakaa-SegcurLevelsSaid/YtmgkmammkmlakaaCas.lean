/- Arrays that lead into one another: the walks of the small functions. -/
import Derived.Test.YtmgkmammkmlakaaCm
import Derived.Test.YtmgkmammkmlakaaTy7
namespace Go.Proofs.Ytmgkmammkmlakaa
set_option linter.unusedVariables false
set_option maxRecDepth 100000

/-- An array as it lies in memory. -/
def ArrIn (L : List HP) : Option Addr → Arr → Prop
  | p, .nil => p = none
  | p, .node es lo hi => ∃ b A c pl ph, p = some ⟨b, 0, none⟩ ∧ LdN L b 0 3 [.slice A es.length c, .pointer pl, .pointer ph] ∧ Rd L A es.length es ∧ es.length ≤ c ∧ c ≤ maxLen ∧ ArrIn L pl lo ∧ ArrIn L ph hi
theorem ArrIn.skip {X : HP} {L : List HP} : ∀ {t : Arr} {p : Option Addr}, ArrIn L p t → ArrIn (X :: L) p t
  | .nil, _, h => h
  | .node es lo hi, _, ⟨b, A, c, pl, ph, e, h1, h2, h3, h4, h5, h6⟩ => ⟨b, A, c, pl, ph, e, h1.skip, h2.skip, h3, h4, h5.skip, h6.skip⟩
theorem ArrIn.app {N L : List HP} {t : Arr} {p : Option Addr} (h : ArrIn L p t) : ArrIn (N ++ L) p t := by
  induction N with
  | nil => exact h
  | cons X N ih => exact ih.skip

end Go.Proofs.Ytmgkmammkmlakaa
