/-
  No cell of these rows narrows 'for every input' (looked for: loops, veiled, ifaces, maps, wideKeys, modest, calm, conditions, laid).
  DERIVED. THE GIVEN ROWS OF THIS SEAT. 4 by the template 'for every input the law returns true; each argument reads behind the call as it read before'; 0 by the template 'total and deterministic' (their statements: YtjgdhkilnalejaaTotals.lean).
  GIVEN WITH THE SEED: the statements are not yours to turn. If you find one false, say at which input.
  Laid BY PROGRAM, IN A SANDBOX (cutbox-rows.mjs): the forced cells as the released guide's own fill.sh prints them over the translation 0348fdb85dcd4a93… (all of the seat's roots in one cut). By AI agents, Wed Nov 11 2026. No macro, syntax, notation, axiom, sorry.
-/
import Derived.Test.YtjgdhkilnalejaaChecked
import GoSem.Claim
import GoSem.ClaimJoined
import GoSem.ClaimMapViews
import Derived.JoinedTies
import Derived.KernelRfl
namespace Go.Proofs.Ytjgdhkilnalejaa
/- THE CELL 'sum', in the pinned program and in every row, IS THE sha256 OF THE DUMP (.gsa) THAT YtjgdhkilnalejaaProg.lean LOADS. Nothing in Lean hashes anything: it is a label: what it is worth is what the hold of that sum in a sandbox is worth. -/
noncomputable def Try.pinned : Pinned := { name := "ytjgdhkilnalejaa", sum := "0348fdb85dcd4a9301801ee9bcdbdb104494603862866bf09e20e3dfc14bdbd7", checked := Try.checked }
namespace Rows
def none {H : Type} : Left H := { results := [], args := [] }

/-- 'alidadelaw12.KdLine': WHATEVER THE INPUT: true; the input reads as it did. -/
def kdLineSpec : ChangeSpec := { name := "kdLine", fn := fun _ => fun
  | [d1, d2] => { results := [.lit (.bool true)], args := [d1, d2] }
  | _ => none }
def kdLineRow : OpenClaim := { program := "ytjgdhkilnalejaa", sum := "0348fdb85dcd4a9301801ee9bcdbdb104494603862866bf09e20e3dfc14bdbd7", func := "alidade/alidadelaw12.KdLine", spec := "kdLine", unfollowed := true, recurses := true, apart := false }
def KdLineSaid : Prop := kdLineRow.holds Try.pinned (OpenSpec.ofChange kdLineSpec)

/-- ITS FALSE NEIGHBOUR: 'it returns false'. Refute it at one input. -/
def kdLineWrong : ChangeSpec := { name := "kdLine", fn := fun _ => fun
  | [d1, d2] => { results := [.lit (.bool false)], args := [d1, d2] }
  | _ => none }
def KdLineWrongFalsely : Prop := kdLineRow.holds Try.pinned (OpenSpec.ofChange kdLineWrong)

/-- 'alidadelaw12.KdBack': WHATEVER THE INPUT: true; the input reads as it did. -/
def kdBackSpec : ChangeSpec := { name := "kdBack", fn := fun _ => fun
  | [d1, d2, d3] => { results := [.lit (.bool true)], args := [d1, d2, d3] }
  | _ => none }
def kdBackRow : OpenClaim := { program := "ytjgdhkilnalejaa", sum := "0348fdb85dcd4a9301801ee9bcdbdb104494603862866bf09e20e3dfc14bdbd7", func := "alidade/alidadelaw12.KdBack", spec := "kdBack", unfollowed := true, recurses := true, apart := false }
def KdBackSaid : Prop := kdBackRow.holds Try.pinned (OpenSpec.ofChange kdBackSpec)

/-- ITS FALSE NEIGHBOUR: 'it returns false'. Refute it at one input. -/
def kdBackWrong : ChangeSpec := { name := "kdBack", fn := fun _ => fun
  | [d1, d2, d3] => { results := [.lit (.bool false)], args := [d1, d2, d3] }
  | _ => none }
def KdBackWrongFalsely : Prop := kdBackRow.holds Try.pinned (OpenSpec.ofChange kdBackWrong)

/-- 'alidadelaw12.KdPlays': WHATEVER THE INPUT: true; the input reads as it did. -/
def kdPlaysSpec : ChangeSpec := { name := "kdPlays", fn := fun _ => fun
  | [d1, d2, d3] => { results := [.lit (.bool true)], args := [d1, d2, d3] }
  | _ => none }
def kdPlaysRow : OpenClaim := { program := "ytjgdhkilnalejaa", sum := "0348fdb85dcd4a9301801ee9bcdbdb104494603862866bf09e20e3dfc14bdbd7", func := "alidade/alidadelaw12.KdPlays", spec := "kdPlays", unfollowed := true, recurses := true, apart := false }
def KdPlaysSaid : Prop := kdPlaysRow.holds Try.pinned (OpenSpec.ofChange kdPlaysSpec)

/-- ITS FALSE NEIGHBOUR: 'it returns false'. Refute it at one input. -/
def kdPlaysWrong : ChangeSpec := { name := "kdPlays", fn := fun _ => fun
  | [d1, d2, d3] => { results := [.lit (.bool false)], args := [d1, d2, d3] }
  | _ => none }
def KdPlaysWrongFalsely : Prop := kdPlaysRow.holds Try.pinned (OpenSpec.ofChange kdPlaysWrong)

/-- 'alidadelaw12.KdNone': WHATEVER THE INPUT: true; the input reads as it did. -/
def kdNoneSpec : ChangeSpec := { name := "kdNone", fn := fun _ => fun
  | [d1, d2] => { results := [.lit (.bool true)], args := [d1, d2] }
  | _ => none }
def kdNoneRow : OpenClaim := { program := "ytjgdhkilnalejaa", sum := "0348fdb85dcd4a9301801ee9bcdbdb104494603862866bf09e20e3dfc14bdbd7", func := "alidade/alidadelaw12.KdNone", spec := "kdNone", unfollowed := true, recurses := true, apart := false }
def KdNoneSaid : Prop := kdNoneRow.holds Try.pinned (OpenSpec.ofChange kdNoneSpec)

/-- ITS FALSE NEIGHBOUR: 'it returns false'. Refute it at one input. -/
def kdNoneWrong : ChangeSpec := { name := "kdNone", fn := fun _ => fun
  | [d1, d2] => { results := [.lit (.bool false)], args := [d1, d2] }
  | _ => none }
def KdNoneWrongFalsely : Prop := kdNoneRow.holds Try.pinned (OpenSpec.ofChange kdNoneWrong)

/- THE SECOND FORM. 'bulk': how many values and letters a reading holds, each counted each time it is reached (what is shared counts as often as it is met; a slice's spare places count too). A statement '..UptoSaid' is the law's where the arguments, and the package variables that the reading takes, are together of bulk at most 1048576: NARROWER than '..Said'. Prove '..Said' where nothing that the law and all that it calls make is longer than what came in: it says more and counts as full. Else prove '..UptoSaid'. A law counts once. -/
mutual
def uptoBulk {H : Type} : DataW H → Nat
  | .lit (.string bytes) => bytes.length + 1
  | .lit _ => 1
  | .nil => 1
  | .ptr d => uptoBulk d + 1
  | .slice elems spare => uptoBulkAll elems + uptoBulkAll spare + 1
  | .agg parts => uptoBulkAll parts + 1
  | .iface _ d => uptoBulk d + 1
  | .map entries => uptoBulkEntries entries + 1
  | .held _ => 1
def uptoBulkAll {H : Type} : List (DataW H) → Nat
  | [] => 0
  | d :: r => uptoBulk d + uptoBulkAll r
def uptoBulkEntries {H : Type} : List (Lit × DataW H) → Nat
  | [] => 0
  | x :: r => uptoBulkEntry x + uptoBulkEntries r
def uptoBulkEntry {H : Type} : Lit × DataW H → Nat
  | (.string bytes, d) => bytes.length + uptoBulk d + 1
  | (_, d) => uptoBulk d + 1
 end
def uptoSmall : (H : Type) → List (DataW H) → Bool := fun _ ds => decide (uptoBulkAll ds ≤ 1048576)
def OpenSpec.upto (s : _root_.Go.ChangeSpec) : _root_.Go.OpenSpec := { _root_.Go.OpenSpec.ofChange s with cond := some uptoSmall }

/-- 'alidadelaw12.KdLine', WHERE WHAT IT READS IS OF BULK AT MOST 1048576: true; the input reads as it did. -/
def kdLineUptoRow : OpenClaim := { program := "ytjgdhkilnalejaa", sum := "0348fdb85dcd4a9301801ee9bcdbdb104494603862866bf09e20e3dfc14bdbd7", func := "alidade/alidadelaw12.KdLine", spec := "kdLine", unfollowed := true, recurses := true, apart := false, narrowed := true }
def KdLineUptoSaid : Prop := kdLineUptoRow.holds Try.pinned (OpenSpec.upto kdLineSpec)

/-- 'alidadelaw12.KdBack', WHERE WHAT IT READS IS OF BULK AT MOST 1048576: true; the input reads as it did. -/
def kdBackUptoRow : OpenClaim := { program := "ytjgdhkilnalejaa", sum := "0348fdb85dcd4a9301801ee9bcdbdb104494603862866bf09e20e3dfc14bdbd7", func := "alidade/alidadelaw12.KdBack", spec := "kdBack", unfollowed := true, recurses := true, apart := false, narrowed := true }
def KdBackUptoSaid : Prop := kdBackUptoRow.holds Try.pinned (OpenSpec.upto kdBackSpec)

/-- 'alidadelaw12.KdPlays', WHERE WHAT IT READS IS OF BULK AT MOST 1048576: true; the input reads as it did. -/
def kdPlaysUptoRow : OpenClaim := { program := "ytjgdhkilnalejaa", sum := "0348fdb85dcd4a9301801ee9bcdbdb104494603862866bf09e20e3dfc14bdbd7", func := "alidade/alidadelaw12.KdPlays", spec := "kdPlays", unfollowed := true, recurses := true, apart := false, narrowed := true }
def KdPlaysUptoSaid : Prop := kdPlaysUptoRow.holds Try.pinned (OpenSpec.upto kdPlaysSpec)

/-- 'alidadelaw12.KdNone', WHERE WHAT IT READS IS OF BULK AT MOST 1048576: true; the input reads as it did. -/
def kdNoneUptoRow : OpenClaim := { program := "ytjgdhkilnalejaa", sum := "0348fdb85dcd4a9301801ee9bcdbdb104494603862866bf09e20e3dfc14bdbd7", func := "alidade/alidadelaw12.KdNone", spec := "kdNone", unfollowed := true, recurses := true, apart := false, narrowed := true }
def KdNoneUptoSaid : Prop := kdNoneUptoRow.holds Try.pinned (OpenSpec.upto kdNoneSpec)

end Rows
end Go.Proofs.Ytjgdhkilnalejaa
