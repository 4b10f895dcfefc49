/-
  No cell of these rows narrows 'for every input' (looked for: loops, veiled, ifaces, maps, wideKeys, modest, calm, conditions, laid).
  DERIVED. THE GIVEN ROWS OF THIS SEAT. 6 by the template 'for every input the law returns true; each argument reads behind the call as it read before'; 0 by the template 'total and deterministic' (their statements: YtcdafmmfcjbodaaTotals.lean).
  GIVEN WITH THE SEED: the statements are not yours to turn. If you find one false, say at which input.
  Laid BY PROGRAM, IN A SANDBOX (cutbox-rows.mjs): the forced cells as the released guide's own fill.sh prints them over the translation e1e27983efdbf912… (all of the seat's roots in one cut). By AI agents, Wed Nov 11 2026. No macro, syntax, notation, axiom, sorry.
-/
import Derived.Test.YtcdafmmfcjbodaaChecked
import GoSem.Claim
import GoSem.ClaimJoined
import GoSem.ClaimMapViews
import Derived.JoinedTies
import Derived.KernelRfl
namespace Go.Proofs.Ytcdafmmfcjbodaa
/- THE CELL 'sum', in the pinned program and in every row, IS THE sha256 OF THE DUMP (.gsa) THAT YtcdafmmfcjbodaaProg.lean LOADS. Nothing in Lean hashes anything: it is a label: what it is worth is what the hold of that sum in a sandbox is worth. -/
noncomputable def Try.pinned : Pinned := { name := "ytcdafmmfcjbodaa", sum := "e1e27983efdbf912601852d3f026f1b63c959389f26d0bd9ef7f69a8f0ede781", checked := Try.checked }
namespace Rows
def none {H : Type} : Left H := { results := [], args := [] }

/-- 'alidadelaw16.CascadeLeads': WHATEVER THE INPUT: true; the input reads as it did. -/
def cascadeLeadsSpec : ChangeSpec := { name := "cascadeLeads", fn := fun _ => fun
  | [d1, d2, d3] => { results := [.lit (.bool true)], args := [d1, d2, d3] }
  | _ => none }
def cascadeLeadsRow : OpenClaim := { program := "ytcdafmmfcjbodaa", sum := "e1e27983efdbf912601852d3f026f1b63c959389f26d0bd9ef7f69a8f0ede781", func := "alidade/alidadelaw16.CascadeLeads", spec := "cascadeLeads", unfollowed := true, recurses := true, apart := false }
def CascadeLeadsSaid : Prop := cascadeLeadsRow.holds Try.pinned (OpenSpec.ofChange cascadeLeadsSpec)

/-- ITS FALSE NEIGHBOUR: 'it returns false'. Refute it at one input. -/
def cascadeLeadsWrong : ChangeSpec := { name := "cascadeLeads", fn := fun _ => fun
  | [d1, d2, d3] => { results := [.lit (.bool false)], args := [d1, d2, d3] }
  | _ => none }
def CascadeLeadsWrongFalsely : Prop := cascadeLeadsRow.holds Try.pinned (OpenSpec.ofChange cascadeLeadsWrong)

/-- 'alidadelaw25.PlanAnswers': WHATEVER THE INPUT: true; the input reads as it did. -/
def planAnswersSpec : ChangeSpec := { name := "planAnswers", fn := fun _ => fun
  | [d1, d2, d3] => { results := [.lit (.bool true)], args := [d1, d2, d3] }
  | _ => none }
def planAnswersRow : OpenClaim := { program := "ytcdafmmfcjbodaa", sum := "e1e27983efdbf912601852d3f026f1b63c959389f26d0bd9ef7f69a8f0ede781", func := "alidade/alidadelaw25.PlanAnswers", spec := "planAnswers", unfollowed := true, recurses := true, apart := false }
def PlanAnswersSaid : Prop := planAnswersRow.holds Try.pinned (OpenSpec.ofChange planAnswersSpec)

/-- ITS FALSE NEIGHBOUR: 'it returns false'. Refute it at one input. -/
def planAnswersWrong : ChangeSpec := { name := "planAnswers", fn := fun _ => fun
  | [d1, d2, d3] => { results := [.lit (.bool false)], args := [d1, d2, d3] }
  | _ => none }
def PlanAnswersWrongFalsely : Prop := planAnswersRow.holds Try.pinned (OpenSpec.ofChange planAnswersWrong)

/-- 'alidadelaw25.PlanChecks': WHATEVER THE INPUT: true; the input reads as it did. -/
def planChecksSpec : ChangeSpec := { name := "planChecks", fn := fun _ => fun
  | [d] => { results := [.lit (.bool true)], args := [d] }
  | _ => none }
def planChecksRow : OpenClaim := { program := "ytcdafmmfcjbodaa", sum := "e1e27983efdbf912601852d3f026f1b63c959389f26d0bd9ef7f69a8f0ede781", func := "alidade/alidadelaw25.PlanChecks", spec := "planChecks", unfollowed := true, recurses := true, apart := false }
def PlanChecksSaid : Prop := planChecksRow.holds Try.pinned (OpenSpec.ofChange planChecksSpec)

/-- ITS FALSE NEIGHBOUR: 'it returns false'. Refute it at one input. -/
def planChecksWrong : ChangeSpec := { name := "planChecks", fn := fun _ => fun
  | [d] => { results := [.lit (.bool false)], args := [d] }
  | _ => none }
def PlanChecksWrongFalsely : Prop := planChecksRow.holds Try.pinned (OpenSpec.ofChange planChecksWrong)

/-- 'alidadelaw25.PlanOnly': WHATEVER THE INPUT: true; the input reads as it did. -/
def planOnlySpec : ChangeSpec := { name := "planOnly", fn := fun _ => fun
  | [d1, d2, d3] => { results := [.lit (.bool true)], args := [d1, d2, d3] }
  | _ => none }
def planOnlyRow : OpenClaim := { program := "ytcdafmmfcjbodaa", sum := "e1e27983efdbf912601852d3f026f1b63c959389f26d0bd9ef7f69a8f0ede781", func := "alidade/alidadelaw25.PlanOnly", spec := "planOnly", unfollowed := true, recurses := true, apart := false }
def PlanOnlySaid : Prop := planOnlyRow.holds Try.pinned (OpenSpec.ofChange planOnlySpec)

/-- ITS FALSE NEIGHBOUR: 'it returns false'. Refute it at one input. -/
def planOnlyWrong : ChangeSpec := { name := "planOnly", fn := fun _ => fun
  | [d1, d2, d3] => { results := [.lit (.bool false)], args := [d1, d2, d3] }
  | _ => none }
def PlanOnlyWrongFalsely : Prop := planOnlyRow.holds Try.pinned (OpenSpec.ofChange planOnlyWrong)

/-- 'alidadelaw16.CascadePlaces': WHATEVER THE INPUT: true; the input reads as it did. -/
def cascadePlacesSpec : ChangeSpec := { name := "cascadePlaces", fn := fun _ => fun
  | [d1, d2, d3] => { results := [.lit (.bool true)], args := [d1, d2, d3] }
  | _ => none }
def cascadePlacesRow : OpenClaim := { program := "ytcdafmmfcjbodaa", sum := "e1e27983efdbf912601852d3f026f1b63c959389f26d0bd9ef7f69a8f0ede781", func := "alidade/alidadelaw16.CascadePlaces", spec := "cascadePlaces", unfollowed := true, recurses := true, apart := false }
def CascadePlacesSaid : Prop := cascadePlacesRow.holds Try.pinned (OpenSpec.ofChange cascadePlacesSpec)

/-- ITS FALSE NEIGHBOUR: 'it returns false'. Refute it at one input. -/
def cascadePlacesWrong : ChangeSpec := { name := "cascadePlaces", fn := fun _ => fun
  | [d1, d2, d3] => { results := [.lit (.bool false)], args := [d1, d2, d3] }
  | _ => none }
def CascadePlacesWrongFalsely : Prop := cascadePlacesRow.holds Try.pinned (OpenSpec.ofChange cascadePlacesWrong)

/-- 'alidadelaw16.CascadeNone': WHATEVER THE INPUT: true; the input reads as it did. -/
def cascadeNoneSpec : ChangeSpec := { name := "cascadeNone", fn := fun _ => fun
  | [d1, d2] => { results := [.lit (.bool true)], args := [d1, d2] }
  | _ => none }
def cascadeNoneRow : OpenClaim := { program := "ytcdafmmfcjbodaa", sum := "e1e27983efdbf912601852d3f026f1b63c959389f26d0bd9ef7f69a8f0ede781", func := "alidade/alidadelaw16.CascadeNone", spec := "cascadeNone", unfollowed := true, recurses := true, apart := false }
def CascadeNoneSaid : Prop := cascadeNoneRow.holds Try.pinned (OpenSpec.ofChange cascadeNoneSpec)

/-- ITS FALSE NEIGHBOUR: 'it returns false'. Refute it at one input. -/
def cascadeNoneWrong : ChangeSpec := { name := "cascadeNone", fn := fun _ => fun
  | [d1, d2] => { results := [.lit (.bool false)], args := [d1, d2] }
  | _ => none }
def CascadeNoneWrongFalsely : Prop := cascadeNoneRow.holds Try.pinned (OpenSpec.ofChange cascadeNoneWrong)

/- THE SECOND FORM. 'bulk': how many values and letters a reading holds, each counted each time it is reached (what is shared counts as often as it is met; a slice's spare places count too). A statement '..UptoSaid' is the law's where the arguments, and the package variables that the reading takes, are together of bulk at most 1048576: NARROWER than '..Said'. Prove '..Said' where nothing that the law and all that it calls make is longer than what came in: it says more and counts as full. Else prove '..UptoSaid'. A law counts once. -/
mutual
def uptoBulk {H : Type} : DataW H → Nat
  | .lit (.string bytes) => bytes.length + 1
  | .lit _ => 1
  | .nil => 1
  | .ptr d => uptoBulk d + 1
  | .slice elems spare => uptoBulkAll elems + uptoBulkAll spare + 1
  | .agg parts => uptoBulkAll parts + 1
  | .iface _ d => uptoBulk d + 1
  | .map entries => uptoBulkEntries entries + 1
  | .held _ => 1
def uptoBulkAll {H : Type} : List (DataW H) → Nat
  | [] => 0
  | d :: r => uptoBulk d + uptoBulkAll r
def uptoBulkEntries {H : Type} : List (Lit × DataW H) → Nat
  | [] => 0
  | x :: r => uptoBulkEntry x + uptoBulkEntries r
def uptoBulkEntry {H : Type} : Lit × DataW H → Nat
  | (.string bytes, d) => bytes.length + uptoBulk d + 1
  | (_, d) => uptoBulk d + 1
 end
def uptoSmall : (H : Type) → List (DataW H) → Bool := fun _ ds => decide (uptoBulkAll ds ≤ 1048576)
def OpenSpec.upto (s : _root_.Go.ChangeSpec) : _root_.Go.OpenSpec := { _root_.Go.OpenSpec.ofChange s with cond := some uptoSmall }

/-- 'alidadelaw16.CascadeLeads', WHERE WHAT IT READS IS OF BULK AT MOST 1048576: true; the input reads as it did. -/
def cascadeLeadsUptoRow : OpenClaim := { program := "ytcdafmmfcjbodaa", sum := "e1e27983efdbf912601852d3f026f1b63c959389f26d0bd9ef7f69a8f0ede781", func := "alidade/alidadelaw16.CascadeLeads", spec := "cascadeLeads", unfollowed := true, recurses := true, apart := false, narrowed := true }
def CascadeLeadsUptoSaid : Prop := cascadeLeadsUptoRow.holds Try.pinned (OpenSpec.upto cascadeLeadsSpec)

/-- 'alidadelaw25.PlanAnswers', WHERE WHAT IT READS IS OF BULK AT MOST 1048576: true; the input reads as it did. -/
def planAnswersUptoRow : OpenClaim := { program := "ytcdafmmfcjbodaa", sum := "e1e27983efdbf912601852d3f026f1b63c959389f26d0bd9ef7f69a8f0ede781", func := "alidade/alidadelaw25.PlanAnswers", spec := "planAnswers", unfollowed := true, recurses := true, apart := false, narrowed := true }
def PlanAnswersUptoSaid : Prop := planAnswersUptoRow.holds Try.pinned (OpenSpec.upto planAnswersSpec)

/-- 'alidadelaw25.PlanChecks', WHERE WHAT IT READS IS OF BULK AT MOST 1048576: true; the input reads as it did. -/
def planChecksUptoRow : OpenClaim := { program := "ytcdafmmfcjbodaa", sum := "e1e27983efdbf912601852d3f026f1b63c959389f26d0bd9ef7f69a8f0ede781", func := "alidade/alidadelaw25.PlanChecks", spec := "planChecks", unfollowed := true, recurses := true, apart := false, narrowed := true }
def PlanChecksUptoSaid : Prop := planChecksUptoRow.holds Try.pinned (OpenSpec.upto planChecksSpec)

/-- 'alidadelaw25.PlanOnly', WHERE WHAT IT READS IS OF BULK AT MOST 1048576: true; the input reads as it did. -/
def planOnlyUptoRow : OpenClaim := { program := "ytcdafmmfcjbodaa", sum := "e1e27983efdbf912601852d3f026f1b63c959389f26d0bd9ef7f69a8f0ede781", func := "alidade/alidadelaw25.PlanOnly", spec := "planOnly", unfollowed := true, recurses := true, apart := false, narrowed := true }
def PlanOnlyUptoSaid : Prop := planOnlyUptoRow.holds Try.pinned (OpenSpec.upto planOnlySpec)

/-- 'alidadelaw16.CascadePlaces', WHERE WHAT IT READS IS OF BULK AT MOST 1048576: true; the input reads as it did. -/
def cascadePlacesUptoRow : OpenClaim := { program := "ytcdafmmfcjbodaa", sum := "e1e27983efdbf912601852d3f026f1b63c959389f26d0bd9ef7f69a8f0ede781", func := "alidade/alidadelaw16.CascadePlaces", spec := "cascadePlaces", unfollowed := true, recurses := true, apart := false, narrowed := true }
def CascadePlacesUptoSaid : Prop := cascadePlacesUptoRow.holds Try.pinned (OpenSpec.upto cascadePlacesSpec)

/-- 'alidadelaw16.CascadeNone', WHERE WHAT IT READS IS OF BULK AT MOST 1048576: true; the input reads as it did. -/
def cascadeNoneUptoRow : OpenClaim := { program := "ytcdafmmfcjbodaa", sum := "e1e27983efdbf912601852d3f026f1b63c959389f26d0bd9ef7f69a8f0ede781", func := "alidade/alidadelaw16.CascadeNone", spec := "cascadeNone", unfollowed := true, recurses := true, apart := false, narrowed := true }
def CascadeNoneUptoSaid : Prop := cascadeNoneUptoRow.holds Try.pinned (OpenSpec.upto cascadeNoneSpec)

end Rows
end Go.Proofs.Ytcdafmmfcjbodaa
