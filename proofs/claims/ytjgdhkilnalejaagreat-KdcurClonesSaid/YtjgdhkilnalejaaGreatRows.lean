/-
  No cell of these rows narrows 'for every input' (looked for: loops, veiled, ifaces, maps, wideKeys, modest, calm, conditions, laid).
  DERIVED. THE GIVEN ROWS OF THIS SEAT. 3 by the template 'for every input the law returns true; each argument reads behind the call as it read before'; 0 by the template 'total and deterministic' (their statements: YtjgdhkilnalejaaGreatTotals.lean).
  GIVEN WITH THE SEED: the statements are not yours to turn. If you find one false, say at which input.
  Laid BY PROGRAM, IN A SANDBOX (cutbox-rows.mjs): the forced cells as the released guide's own fill.sh prints them over the translation c9b5f30cc3bdfcb1… (all of the seat's roots in one cut). By AI agents, Wed Nov 11 2026. No macro, syntax, notation, axiom, sorry.
-/
import Derived.Test.YtjgdhkilnalejaaGreatChecked
import GoSem.Claim
import GoSem.ClaimJoined
import GoSem.ClaimMapViews
import Derived.JoinedTies
import Derived.KernelRfl
namespace Go.Proofs.YtjgdhkilnalejaaGreat
/- THE CELL 'sum', in the pinned program and in every row, IS THE sha256 OF THE DUMP (.gsa) THAT YtjgdhkilnalejaaGreatProg.lean LOADS. Nothing in Lean hashes anything: it is a label: what it is worth is what the hold of that sum in a sandbox is worth. -/
noncomputable def Tryz.pinned : Pinned := { name := "ytjgdhkilnalejaagreat", sum := "c9b5f30cc3bdfcb19abc9e562e736caeab8c254a75e8685b30f555adff250d20", checked := Tryz.checked }
namespace Rows
def none {H : Type} : Left H := { results := [], args := [] }

/-- 'alidadelaw13.KdcurWindows': WHATEVER THE INPUT: true; the input reads as it did. -/
def kdcurWindowsSpec : ChangeSpec := { name := "kdcurWindows", fn := fun _ => fun
  | [d1, d2, d3] => { results := [.lit (.bool true)], args := [d1, d2, d3] }
  | _ => none }
def kdcurWindowsRow : OpenClaim := { program := "ytjgdhkilnalejaagreat", sum := "c9b5f30cc3bdfcb19abc9e562e736caeab8c254a75e8685b30f555adff250d20", func := "alidade/alidadelaw13.KdcurWindows", spec := "kdcurWindows", unfollowed := true, recurses := true, apart := false }
def KdcurWindowsSaid : Prop := kdcurWindowsRow.holds Tryz.pinned (OpenSpec.ofChange kdcurWindowsSpec)

/-- ITS FALSE NEIGHBOUR: 'it returns false'. Refute it at one input. -/
def kdcurWindowsWrong : ChangeSpec := { name := "kdcurWindows", fn := fun _ => fun
  | [d1, d2, d3] => { results := [.lit (.bool false)], args := [d1, d2, d3] }
  | _ => none }
def KdcurWindowsWrongFalsely : Prop := kdcurWindowsRow.holds Tryz.pinned (OpenSpec.ofChange kdcurWindowsWrong)

/-- 'alidadelaw13.KdcurNone': WHATEVER THE INPUT: true; the input reads as it did. -/
def kdcurNoneSpec : ChangeSpec := { name := "kdcurNone", fn := fun _ => fun
  | [d1, d2] => { results := [.lit (.bool true)], args := [d1, d2] }
  | _ => none }
def kdcurNoneRow : OpenClaim := { program := "ytjgdhkilnalejaagreat", sum := "c9b5f30cc3bdfcb19abc9e562e736caeab8c254a75e8685b30f555adff250d20", func := "alidade/alidadelaw13.KdcurNone", spec := "kdcurNone", unfollowed := true, recurses := true, apart := false }
def KdcurNoneSaid : Prop := kdcurNoneRow.holds Tryz.pinned (OpenSpec.ofChange kdcurNoneSpec)

/-- ITS FALSE NEIGHBOUR: 'it returns false'. Refute it at one input. -/
def kdcurNoneWrong : ChangeSpec := { name := "kdcurNone", fn := fun _ => fun
  | [d1, d2] => { results := [.lit (.bool false)], args := [d1, d2] }
  | _ => none }
def KdcurNoneWrongFalsely : Prop := kdcurNoneRow.holds Tryz.pinned (OpenSpec.ofChange kdcurNoneWrong)

/-- 'alidadelaw13.KdcurClones': WHATEVER THE INPUT: true; the input reads as it did. -/
def kdcurClonesSpec : ChangeSpec := { name := "kdcurClones", fn := fun _ => fun
  | [d1, d2, d3] => { results := [.lit (.bool true)], args := [d1, d2, d3] }
  | _ => none }
def kdcurClonesRow : OpenClaim := { program := "ytjgdhkilnalejaagreat", sum := "c9b5f30cc3bdfcb19abc9e562e736caeab8c254a75e8685b30f555adff250d20", func := "alidade/alidadelaw13.KdcurClones", spec := "kdcurClones", unfollowed := true, recurses := true, apart := false }
def KdcurClonesSaid : Prop := kdcurClonesRow.holds Tryz.pinned (OpenSpec.ofChange kdcurClonesSpec)

/-- ITS FALSE NEIGHBOUR: 'it returns false'. Refute it at one input. -/
def kdcurClonesWrong : ChangeSpec := { name := "kdcurClones", fn := fun _ => fun
  | [d1, d2, d3] => { results := [.lit (.bool false)], args := [d1, d2, d3] }
  | _ => none }
def KdcurClonesWrongFalsely : Prop := kdcurClonesRow.holds Tryz.pinned (OpenSpec.ofChange kdcurClonesWrong)

/- THE SECOND FORM. 'bulk': how many values and letters a reading holds, each counted each time it is reached (what is shared counts as often as it is met; a slice's spare places count too). A statement '..UptoSaid' is the law's where the arguments, and the package variables that the reading takes, are together of bulk at most 1048576: NARROWER than '..Said'. Prove '..Said' where nothing that the law and all that it calls make is longer than what came in: it says more and counts as full. Else prove '..UptoSaid'. A law counts once. -/
mutual
def uptoBulk {H : Type} : DataW H → Nat
  | .lit (.string bytes) => bytes.length + 1
  | .lit _ => 1
  | .nil => 1
  | .ptr d => uptoBulk d + 1
  | .slice elems spare => uptoBulkAll elems + uptoBulkAll spare + 1
  | .agg parts => uptoBulkAll parts + 1
  | .iface _ d => uptoBulk d + 1
  | .map entries => uptoBulkEntries entries + 1
  | .held _ => 1
def uptoBulkAll {H : Type} : List (DataW H) → Nat
  | [] => 0
  | d :: r => uptoBulk d + uptoBulkAll r
def uptoBulkEntries {H : Type} : List (Lit × DataW H) → Nat
  | [] => 0
  | x :: r => uptoBulkEntry x + uptoBulkEntries r
def uptoBulkEntry {H : Type} : Lit × DataW H → Nat
  | (.string bytes, d) => bytes.length + uptoBulk d + 1
  | (_, d) => uptoBulk d + 1
 end
def uptoSmall : (H : Type) → List (DataW H) → Bool := fun _ ds => decide (uptoBulkAll ds ≤ 1048576)
def OpenSpec.upto (s : _root_.Go.ChangeSpec) : _root_.Go.OpenSpec := { _root_.Go.OpenSpec.ofChange s with cond := some uptoSmall }

/-- 'alidadelaw13.KdcurWindows', WHERE WHAT IT READS IS OF BULK AT MOST 1048576: true; the input reads as it did. -/
def kdcurWindowsUptoRow : OpenClaim := { program := "ytjgdhkilnalejaagreat", sum := "c9b5f30cc3bdfcb19abc9e562e736caeab8c254a75e8685b30f555adff250d20", func := "alidade/alidadelaw13.KdcurWindows", spec := "kdcurWindows", unfollowed := true, recurses := true, apart := false, narrowed := true }
def KdcurWindowsUptoSaid : Prop := kdcurWindowsUptoRow.holds Tryz.pinned (OpenSpec.upto kdcurWindowsSpec)

/-- 'alidadelaw13.KdcurNone', WHERE WHAT IT READS IS OF BULK AT MOST 1048576: true; the input reads as it did. -/
def kdcurNoneUptoRow : OpenClaim := { program := "ytjgdhkilnalejaagreat", sum := "c9b5f30cc3bdfcb19abc9e562e736caeab8c254a75e8685b30f555adff250d20", func := "alidade/alidadelaw13.KdcurNone", spec := "kdcurNone", unfollowed := true, recurses := true, apart := false, narrowed := true }
def KdcurNoneUptoSaid : Prop := kdcurNoneUptoRow.holds Tryz.pinned (OpenSpec.upto kdcurNoneSpec)

/-- 'alidadelaw13.KdcurClones', WHERE WHAT IT READS IS OF BULK AT MOST 1048576: true; the input reads as it did. -/
def kdcurClonesUptoRow : OpenClaim := { program := "ytjgdhkilnalejaagreat", sum := "c9b5f30cc3bdfcb19abc9e562e736caeab8c254a75e8685b30f555adff250d20", func := "alidade/alidadelaw13.KdcurClones", spec := "kdcurClones", unfollowed := true, recurses := true, apart := false, narrowed := true }
def KdcurClonesUptoSaid : Prop := kdcurClonesUptoRow.holds Tryz.pinned (OpenSpec.upto kdcurClonesSpec)

end Rows
end Go.Proofs.YtjgdhkilnalejaaGreat
