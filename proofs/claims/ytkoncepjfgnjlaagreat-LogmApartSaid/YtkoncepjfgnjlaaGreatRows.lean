/-
  No cell of these rows narrows 'for every input' (looked for: loops, veiled, ifaces, maps, wideKeys, modest, calm, conditions, laid).
  DERIVED. THE GIVEN ROWS OF THIS SEAT. 5 by the template 'for every input the law returns true; each argument reads behind the call as it read before'; 0 by the template 'total and deterministic' (their statements: YtkoncepjfgnjlaaGreatTotals.lean).
  GIVEN WITH THE SEED: the statements are not yours to turn. If you find one false, say at which input.
  Laid BY PROGRAM, IN A SANDBOX (cutbox-rows.mjs): the forced cells as the released guide's own fill.sh prints them over the translation b479c27d900e2757… (all of the seat's roots in one cut). By AI agents, Wed Nov 11 2026. No macro, syntax, notation, axiom, sorry.
-/
import Derived.Test.YtkoncepjfgnjlaaGreatChecked
import GoSem.Claim
import GoSem.ClaimJoined
import GoSem.ClaimMapViews
import Derived.JoinedTies
import Derived.KernelRfl
namespace Go.Proofs.YtkoncepjfgnjlaaGreat
/- THE CELL 'sum', in the pinned program and in every row, IS THE sha256 OF THE DUMP (.gsa) THAT YtkoncepjfgnjlaaGreatProg.lean LOADS. Nothing in Lean hashes anything: it is a label: what it is worth is what the hold of that sum in a sandbox is worth. -/
noncomputable def Tryz.pinned : Pinned := { name := "ytkoncepjfgnjlaagreat", sum := "b479c27d900e2757997035e77a276081999fc6d079337d7c56ca6a4c5c6680f0", checked := Tryz.checked }
namespace Rows
def none {H : Type} : Left H := { results := [], args := [] }

/-- 'alidadelaw19.LogmLittle': WHATEVER THE INPUT: true; the input reads as it did. -/
def logmLittleSpec : ChangeSpec := { name := "logmLittle", fn := fun _ => fun
  | [d] => { results := [.lit (.bool true)], args := [d] }
  | _ => none }
def logmLittleRow : OpenClaim := { program := "ytkoncepjfgnjlaagreat", sum := "b479c27d900e2757997035e77a276081999fc6d079337d7c56ca6a4c5c6680f0", func := "alidade/alidadelaw19.LogmLittle", spec := "logmLittle", unfollowed := true, recurses := true, plainKeys := false, apart := false }
def LogmLittleSaid : Prop := logmLittleRow.holds Tryz.pinned (OpenSpec.ofChange logmLittleSpec)

/-- ITS FALSE NEIGHBOUR: 'it returns false'. Refute it at one input. -/
def logmLittleWrong : ChangeSpec := { name := "logmLittle", fn := fun _ => fun
  | [d] => { results := [.lit (.bool false)], args := [d] }
  | _ => none }
def LogmLittleWrongFalsely : Prop := logmLittleRow.holds Tryz.pinned (OpenSpec.ofChange logmLittleWrong)

/-- 'alidadelaw19.LogmTrees': WHATEVER THE INPUT: true; the input reads as it did. -/
def logmTreesSpec : ChangeSpec := { name := "logmTrees", fn := fun _ => fun
  | [d1, d2] => { results := [.lit (.bool true)], args := [d1, d2] }
  | _ => none }
def logmTreesRow : OpenClaim := { program := "ytkoncepjfgnjlaagreat", sum := "b479c27d900e2757997035e77a276081999fc6d079337d7c56ca6a4c5c6680f0", func := "alidade/alidadelaw19.LogmTrees", spec := "logmTrees", unfollowed := true, recurses := true, plainKeys := false, apart := false }
def LogmTreesSaid : Prop := logmTreesRow.holds Tryz.pinned (OpenSpec.ofChange logmTreesSpec)

/-- ITS FALSE NEIGHBOUR: 'it returns false'. Refute it at one input. -/
def logmTreesWrong : ChangeSpec := { name := "logmTrees", fn := fun _ => fun
  | [d1, d2] => { results := [.lit (.bool false)], args := [d1, d2] }
  | _ => none }
def LogmTreesWrongFalsely : Prop := logmTreesRow.holds Tryz.pinned (OpenSpec.ofChange logmTreesWrong)

/-- 'alidadelaw19.LogmPlays': WHATEVER THE INPUT: true; the input reads as it did. -/
def logmPlaysSpec : ChangeSpec := { name := "logmPlays", fn := fun _ => fun
  | [d1, d2, d3] => { results := [.lit (.bool true)], args := [d1, d2, d3] }
  | _ => none }
def logmPlaysRow : OpenClaim := { program := "ytkoncepjfgnjlaagreat", sum := "b479c27d900e2757997035e77a276081999fc6d079337d7c56ca6a4c5c6680f0", func := "alidade/alidadelaw19.LogmPlays", spec := "logmPlays", unfollowed := true, recurses := true, plainKeys := false, apart := false }
def LogmPlaysSaid : Prop := logmPlaysRow.holds Tryz.pinned (OpenSpec.ofChange logmPlaysSpec)

/-- ITS FALSE NEIGHBOUR: 'it returns false'. Refute it at one input. -/
def logmPlaysWrong : ChangeSpec := { name := "logmPlays", fn := fun _ => fun
  | [d1, d2, d3] => { results := [.lit (.bool false)], args := [d1, d2, d3] }
  | _ => none }
def LogmPlaysWrongFalsely : Prop := logmPlaysRow.holds Tryz.pinned (OpenSpec.ofChange logmPlaysWrong)

/-- 'alidadelaw19.LogmApart': WHATEVER THE INPUT: true; the input reads as it did. -/
def logmApartSpec : ChangeSpec := { name := "logmApart", fn := fun _ => fun
  | [d1, d2] => { results := [.lit (.bool true)], args := [d1, d2] }
  | _ => none }
def logmApartRow : OpenClaim := { program := "ytkoncepjfgnjlaagreat", sum := "b479c27d900e2757997035e77a276081999fc6d079337d7c56ca6a4c5c6680f0", func := "alidade/alidadelaw19.LogmApart", spec := "logmApart", unfollowed := true, recurses := true, plainKeys := false, apart := false }
def LogmApartSaid : Prop := logmApartRow.holds Tryz.pinned (OpenSpec.ofChange logmApartSpec)

/-- ITS FALSE NEIGHBOUR: 'it returns false'. Refute it at one input. -/
def logmApartWrong : ChangeSpec := { name := "logmApart", fn := fun _ => fun
  | [d1, d2] => { results := [.lit (.bool false)], args := [d1, d2] }
  | _ => none }
def LogmApartWrongFalsely : Prop := logmApartRow.holds Tryz.pinned (OpenSpec.ofChange logmApartWrong)

/-- 'alidadelaw19.LogmNone': WHATEVER THE INPUT: true; the input reads as it did. -/
def logmNoneSpec : ChangeSpec := { name := "logmNone", fn := fun _ => fun
  | [d1, d2] => { results := [.lit (.bool true)], args := [d1, d2] }
  | _ => none }
def logmNoneRow : OpenClaim := { program := "ytkoncepjfgnjlaagreat", sum := "b479c27d900e2757997035e77a276081999fc6d079337d7c56ca6a4c5c6680f0", func := "alidade/alidadelaw19.LogmNone", spec := "logmNone", unfollowed := true, recurses := true, plainKeys := false, apart := false }
def LogmNoneSaid : Prop := logmNoneRow.holds Tryz.pinned (OpenSpec.ofChange logmNoneSpec)

/-- ITS FALSE NEIGHBOUR: 'it returns false'. Refute it at one input. -/
def logmNoneWrong : ChangeSpec := { name := "logmNone", fn := fun _ => fun
  | [d1, d2] => { results := [.lit (.bool false)], args := [d1, d2] }
  | _ => none }
def LogmNoneWrongFalsely : Prop := logmNoneRow.holds Tryz.pinned (OpenSpec.ofChange logmNoneWrong)

/- THE SECOND FORM. 'bulk': how many values and letters a reading holds, each counted each time it is reached (what is shared counts as often as it is met; a slice's spare places count too). A statement '..UptoSaid' is the law's where the arguments, and the package variables that the reading takes, are together of bulk at most 1048576: NARROWER than '..Said'. Prove '..Said' where nothing that the law and all that it calls make is longer than what came in: it says more and counts as full. Else prove '..UptoSaid'. A law counts once. -/
mutual
def uptoBulk {H : Type} : DataW H → Nat
  | .lit (.string bytes) => bytes.length + 1
  | .lit _ => 1
  | .nil => 1
  | .ptr d => uptoBulk d + 1
  | .slice elems spare => uptoBulkAll elems + uptoBulkAll spare + 1
  | .agg parts => uptoBulkAll parts + 1
  | .iface _ d => uptoBulk d + 1
  | .map entries => uptoBulkEntries entries + 1
  | .held _ => 1
def uptoBulkAll {H : Type} : List (DataW H) → Nat
  | [] => 0
  | d :: r => uptoBulk d + uptoBulkAll r
def uptoBulkEntries {H : Type} : List (Lit × DataW H) → Nat
  | [] => 0
  | x :: r => uptoBulkEntry x + uptoBulkEntries r
def uptoBulkEntry {H : Type} : Lit × DataW H → Nat
  | (.string bytes, d) => bytes.length + uptoBulk d + 1
  | (_, d) => uptoBulk d + 1
 end
def uptoSmall : (H : Type) → List (DataW H) → Bool := fun _ ds => decide (uptoBulkAll ds ≤ 1048576)
def OpenSpec.upto (s : _root_.Go.ChangeSpec) : _root_.Go.OpenSpec := { _root_.Go.OpenSpec.ofChange s with cond := some uptoSmall }

/-- 'alidadelaw19.LogmLittle', WHERE WHAT IT READS IS OF BULK AT MOST 1048576: true; the input reads as it did. -/
def logmLittleUptoRow : OpenClaim := { program := "ytkoncepjfgnjlaagreat", sum := "b479c27d900e2757997035e77a276081999fc6d079337d7c56ca6a4c5c6680f0", func := "alidade/alidadelaw19.LogmLittle", spec := "logmLittle", unfollowed := true, recurses := true, plainKeys := false, apart := false, narrowed := true }
def LogmLittleUptoSaid : Prop := logmLittleUptoRow.holds Tryz.pinned (OpenSpec.upto logmLittleSpec)

/-- 'alidadelaw19.LogmTrees', WHERE WHAT IT READS IS OF BULK AT MOST 1048576: true; the input reads as it did. -/
def logmTreesUptoRow : OpenClaim := { program := "ytkoncepjfgnjlaagreat", sum := "b479c27d900e2757997035e77a276081999fc6d079337d7c56ca6a4c5c6680f0", func := "alidade/alidadelaw19.LogmTrees", spec := "logmTrees", unfollowed := true, recurses := true, plainKeys := false, apart := false, narrowed := true }
def LogmTreesUptoSaid : Prop := logmTreesUptoRow.holds Tryz.pinned (OpenSpec.upto logmTreesSpec)

/-- 'alidadelaw19.LogmPlays', WHERE WHAT IT READS IS OF BULK AT MOST 1048576: true; the input reads as it did. -/
def logmPlaysUptoRow : OpenClaim := { program := "ytkoncepjfgnjlaagreat", sum := "b479c27d900e2757997035e77a276081999fc6d079337d7c56ca6a4c5c6680f0", func := "alidade/alidadelaw19.LogmPlays", spec := "logmPlays", unfollowed := true, recurses := true, plainKeys := false, apart := false, narrowed := true }
def LogmPlaysUptoSaid : Prop := logmPlaysUptoRow.holds Tryz.pinned (OpenSpec.upto logmPlaysSpec)

/-- 'alidadelaw19.LogmApart', WHERE WHAT IT READS IS OF BULK AT MOST 1048576: true; the input reads as it did. -/
def logmApartUptoRow : OpenClaim := { program := "ytkoncepjfgnjlaagreat", sum := "b479c27d900e2757997035e77a276081999fc6d079337d7c56ca6a4c5c6680f0", func := "alidade/alidadelaw19.LogmApart", spec := "logmApart", unfollowed := true, recurses := true, plainKeys := false, apart := false, narrowed := true }
def LogmApartUptoSaid : Prop := logmApartUptoRow.holds Tryz.pinned (OpenSpec.upto logmApartSpec)

/-- 'alidadelaw19.LogmNone', WHERE WHAT IT READS IS OF BULK AT MOST 1048576: true; the input reads as it did. -/
def logmNoneUptoRow : OpenClaim := { program := "ytkoncepjfgnjlaagreat", sum := "b479c27d900e2757997035e77a276081999fc6d079337d7c56ca6a4c5c6680f0", func := "alidade/alidadelaw19.LogmNone", spec := "logmNone", unfollowed := true, recurses := true, plainKeys := false, apart := false, narrowed := true }
def LogmNoneUptoSaid : Prop := logmNoneUptoRow.holds Tryz.pinned (OpenSpec.upto logmNoneSpec)

end Rows
end Go.Proofs.YtkoncepjfgnjlaaGreat
