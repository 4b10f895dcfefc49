/-
  No cell of these rows narrows 'for every input' (looked for: loops, veiled, ifaces, maps, wideKeys, modest, calm, conditions, laid).
  DERIVED. THE GIVEN ROWS OF THIS SEAT. 8 by the template 'for every input the law returns true; each argument reads behind the call as it read before'; 0 by the template 'total and deterministic' (their statements: YtmgkmammkmlakaaGreatTotals.lean).
  GIVEN WITH THE SEED: the statements are not yours to turn. If you find one false, say at which input.
  Laid BY PROGRAM, IN A SANDBOX (cutbox-rows.mjs): the forced cells as the released guide's own fill.sh prints them over the translation 58829827aeb618a7… (all of the seat's roots in one cut). By AI agents, Wed Nov 11 2026. No macro, syntax, notation, axiom, sorry.
-/
import Derived.Test.YtmgkmammkmlakaaGreatChecked
import GoSem.Claim
import GoSem.ClaimJoined
import GoSem.ClaimMapViews
import Derived.JoinedTies
import Derived.KernelRfl
namespace Go.Proofs.YtmgkmammkmlakaaGreat
/- THE CELL 'sum', in the pinned program and in every row, IS THE sha256 OF THE DUMP (.gsa) THAT YtmgkmammkmlakaaGreatProg.lean LOADS. Nothing in Lean hashes anything: it is a label: what it is worth is what the hold of that sum in a sandbox is worth. -/
noncomputable def Tryz.pinned : Pinned := { name := "ytmgkmammkmlakaagreat", sum := "58829827aeb618a7c0a9d3e450bc90cc833919aaa95bf5c65a7615314f38d3b0", checked := Tryz.checked }
namespace Rows
def none {H : Type} : Left H := { results := [], args := [] }

/-- 'alidadelaw22.SegsWays': WHATEVER THE INPUT: true; the input reads as it did. -/
def segsWaysSpec : ChangeSpec := { name := "segsWays", fn := fun _ => fun
  | [d1, d2] => { results := [.lit (.bool true)], args := [d1, d2] }
  | _ => none }
def segsWaysRow : OpenClaim := { program := "ytmgkmammkmlakaagreat", sum := "58829827aeb618a7c0a9d3e450bc90cc833919aaa95bf5c65a7615314f38d3b0", func := "alidade/alidadelaw22.SegsWays", spec := "segsWays", inPlace := ["slices.overlaps[alidade/api.Span]"], unfollowed := true, recurses := true, apart := false }
def SegsWaysSaid : Prop := segsWaysRow.holds Tryz.pinned (OpenSpec.ofChange segsWaysSpec)

/-- ITS FALSE NEIGHBOUR: 'it returns false'. Refute it at one input. -/
def segsWaysWrong : ChangeSpec := { name := "segsWays", fn := fun _ => fun
  | [d1, d2] => { results := [.lit (.bool false)], args := [d1, d2] }
  | _ => none }
def SegsWaysWrongFalsely : Prop := segsWaysRow.holds Tryz.pinned (OpenSpec.ofChange segsWaysWrong)

/-- 'alidadelaw22.SegsBegins': WHATEVER THE INPUT: true; the input reads as it did. -/
def segsBeginsSpec : ChangeSpec := { name := "segsBegins", fn := fun _ => fun
  | [d1, d2] => { results := [.lit (.bool true)], args := [d1, d2] }
  | _ => none }
def segsBeginsRow : OpenClaim := { program := "ytmgkmammkmlakaagreat", sum := "58829827aeb618a7c0a9d3e450bc90cc833919aaa95bf5c65a7615314f38d3b0", func := "alidade/alidadelaw22.SegsBegins", spec := "segsBegins", inPlace := ["slices.overlaps[alidade/api.Span]"], unfollowed := true, recurses := true, apart := false }
def SegsBeginsSaid : Prop := segsBeginsRow.holds Tryz.pinned (OpenSpec.ofChange segsBeginsSpec)

/-- ITS FALSE NEIGHBOUR: 'it returns false'. Refute it at one input. -/
def segsBeginsWrong : ChangeSpec := { name := "segsBegins", fn := fun _ => fun
  | [d1, d2] => { results := [.lit (.bool false)], args := [d1, d2] }
  | _ => none }
def SegsBeginsWrongFalsely : Prop := segsBeginsRow.holds Tryz.pinned (OpenSpec.ofChange segsBeginsWrong)

/-- 'alidadelaw22.SegsBack': WHATEVER THE INPUT: true; the input reads as it did. -/
def segsBackSpec : ChangeSpec := { name := "segsBack", fn := fun _ => fun
  | [d1, d2, d3] => { results := [.lit (.bool true)], args := [d1, d2, d3] }
  | _ => none }
def segsBackRow : OpenClaim := { program := "ytmgkmammkmlakaagreat", sum := "58829827aeb618a7c0a9d3e450bc90cc833919aaa95bf5c65a7615314f38d3b0", func := "alidade/alidadelaw22.SegsBack", spec := "segsBack", inPlace := ["slices.overlaps[alidade/api.Span]"], unfollowed := true, recurses := true, apart := false }
def SegsBackSaid : Prop := segsBackRow.holds Tryz.pinned (OpenSpec.ofChange segsBackSpec)

/-- ITS FALSE NEIGHBOUR: 'it returns false'. Refute it at one input. -/
def segsBackWrong : ChangeSpec := { name := "segsBack", fn := fun _ => fun
  | [d1, d2, d3] => { results := [.lit (.bool false)], args := [d1, d2, d3] }
  | _ => none }
def SegsBackWrongFalsely : Prop := segsBackRow.holds Tryz.pinned (OpenSpec.ofChange segsBackWrong)

/-- 'alidadelaw22.SegsPlays': WHATEVER THE INPUT: true; the input reads as it did. -/
def segsPlaysSpec : ChangeSpec := { name := "segsPlays", fn := fun _ => fun
  | [d1, d2, d3] => { results := [.lit (.bool true)], args := [d1, d2, d3] }
  | _ => none }
def segsPlaysRow : OpenClaim := { program := "ytmgkmammkmlakaagreat", sum := "58829827aeb618a7c0a9d3e450bc90cc833919aaa95bf5c65a7615314f38d3b0", func := "alidade/alidadelaw22.SegsPlays", spec := "segsPlays", inPlace := ["slices.overlaps[alidade/api.Span]"], unfollowed := true, recurses := true, apart := false }
def SegsPlaysSaid : Prop := segsPlaysRow.holds Tryz.pinned (OpenSpec.ofChange segsPlaysSpec)

/-- ITS FALSE NEIGHBOUR: 'it returns false'. Refute it at one input. -/
def segsPlaysWrong : ChangeSpec := { name := "segsPlays", fn := fun _ => fun
  | [d1, d2, d3] => { results := [.lit (.bool false)], args := [d1, d2, d3] }
  | _ => none }
def SegsPlaysWrongFalsely : Prop := segsPlaysRow.holds Tryz.pinned (OpenSpec.ofChange segsPlaysWrong)

/-- 'alidadelaw22.SegsNone': WHATEVER THE INPUT: true; the input reads as it did. -/
def segsNoneSpec : ChangeSpec := { name := "segsNone", fn := fun _ => fun
  | [d1, d2] => { results := [.lit (.bool true)], args := [d1, d2] }
  | _ => none }
def segsNoneRow : OpenClaim := { program := "ytmgkmammkmlakaagreat", sum := "58829827aeb618a7c0a9d3e450bc90cc833919aaa95bf5c65a7615314f38d3b0", func := "alidade/alidadelaw22.SegsNone", spec := "segsNone", inPlace := ["slices.overlaps[alidade/api.Span]"], unfollowed := true, recurses := true, apart := false }
def SegsNoneSaid : Prop := segsNoneRow.holds Tryz.pinned (OpenSpec.ofChange segsNoneSpec)

/-- ITS FALSE NEIGHBOUR: 'it returns false'. Refute it at one input. -/
def segsNoneWrong : ChangeSpec := { name := "segsNone", fn := fun _ => fun
  | [d1, d2] => { results := [.lit (.bool false)], args := [d1, d2] }
  | _ => none }
def SegsNoneWrongFalsely : Prop := segsNoneRow.holds Tryz.pinned (OpenSpec.ofChange segsNoneWrong)

/-- 'alidadelaw23.SegcurStabs': WHATEVER THE INPUT: true; the input reads as it did. -/
def segcurStabsSpec : ChangeSpec := { name := "segcurStabs", fn := fun _ => fun
  | [d1, d2, d3] => { results := [.lit (.bool true)], args := [d1, d2, d3] }
  | _ => none }
def segcurStabsRow : OpenClaim := { program := "ytmgkmammkmlakaagreat", sum := "58829827aeb618a7c0a9d3e450bc90cc833919aaa95bf5c65a7615314f38d3b0", func := "alidade/alidadelaw23.SegcurStabs", spec := "segcurStabs", inPlace := ["slices.overlaps[alidade/api.Span]"], unfollowed := true, recurses := true, apart := false }
def SegcurStabsSaid : Prop := segcurStabsRow.holds Tryz.pinned (OpenSpec.ofChange segcurStabsSpec)

/-- ITS FALSE NEIGHBOUR: 'it returns false'. Refute it at one input. -/
def segcurStabsWrong : ChangeSpec := { name := "segcurStabs", fn := fun _ => fun
  | [d1, d2, d3] => { results := [.lit (.bool false)], args := [d1, d2, d3] }
  | _ => none }
def SegcurStabsWrongFalsely : Prop := segcurStabsRow.holds Tryz.pinned (OpenSpec.ofChange segcurStabsWrong)

/-- 'alidadelaw23.SegcurNone': WHATEVER THE INPUT: true; the input reads as it did. -/
def segcurNoneSpec : ChangeSpec := { name := "segcurNone", fn := fun _ => fun
  | [d1, d2] => { results := [.lit (.bool true)], args := [d1, d2] }
  | _ => none }
def segcurNoneRow : OpenClaim := { program := "ytmgkmammkmlakaagreat", sum := "58829827aeb618a7c0a9d3e450bc90cc833919aaa95bf5c65a7615314f38d3b0", func := "alidade/alidadelaw23.SegcurNone", spec := "segcurNone", inPlace := ["slices.overlaps[alidade/api.Span]"], unfollowed := true, recurses := true, apart := false }
def SegcurNoneSaid : Prop := segcurNoneRow.holds Tryz.pinned (OpenSpec.ofChange segcurNoneSpec)

/-- ITS FALSE NEIGHBOUR: 'it returns false'. Refute it at one input. -/
def segcurNoneWrong : ChangeSpec := { name := "segcurNone", fn := fun _ => fun
  | [d1, d2] => { results := [.lit (.bool false)], args := [d1, d2] }
  | _ => none }
def SegcurNoneWrongFalsely : Prop := segcurNoneRow.holds Tryz.pinned (OpenSpec.ofChange segcurNoneWrong)

/-- 'alidadelaw23.SegcurFinds': WHATEVER THE INPUT: true; the input reads as it did. -/
def segcurFindsSpec : ChangeSpec := { name := "segcurFinds", fn := fun _ => fun
  | [d1, d2, d3] => { results := [.lit (.bool true)], args := [d1, d2, d3] }
  | _ => none }
def segcurFindsRow : OpenClaim := { program := "ytmgkmammkmlakaagreat", sum := "58829827aeb618a7c0a9d3e450bc90cc833919aaa95bf5c65a7615314f38d3b0", func := "alidade/alidadelaw23.SegcurFinds", spec := "segcurFinds", inPlace := ["slices.overlaps[alidade/api.Span]"], unfollowed := true, recurses := true, apart := false }
def SegcurFindsSaid : Prop := segcurFindsRow.holds Tryz.pinned (OpenSpec.ofChange segcurFindsSpec)

/-- ITS FALSE NEIGHBOUR: 'it returns false'. Refute it at one input. -/
def segcurFindsWrong : ChangeSpec := { name := "segcurFinds", fn := fun _ => fun
  | [d1, d2, d3] => { results := [.lit (.bool false)], args := [d1, d2, d3] }
  | _ => none }
def SegcurFindsWrongFalsely : Prop := segcurFindsRow.holds Tryz.pinned (OpenSpec.ofChange segcurFindsWrong)

/- THE SECOND FORM. 'bulk': how many values and letters a reading holds, each counted each time it is reached (what is shared counts as often as it is met; a slice's spare places count too). A statement '..UptoSaid' is the law's where the arguments, and the package variables that the reading takes, are together of bulk at most 1048576: NARROWER than '..Said'. Prove '..Said' where nothing that the law and all that it calls make is longer than what came in: it says more and counts as full. Else prove '..UptoSaid'. A law counts once. -/
mutual
def uptoBulk {H : Type} : DataW H → Nat
  | .lit (.string bytes) => bytes.length + 1
  | .lit _ => 1
  | .nil => 1
  | .ptr d => uptoBulk d + 1
  | .slice elems spare => uptoBulkAll elems + uptoBulkAll spare + 1
  | .agg parts => uptoBulkAll parts + 1
  | .iface _ d => uptoBulk d + 1
  | .map entries => uptoBulkEntries entries + 1
  | .held _ => 1
def uptoBulkAll {H : Type} : List (DataW H) → Nat
  | [] => 0
  | d :: r => uptoBulk d + uptoBulkAll r
def uptoBulkEntries {H : Type} : List (Lit × DataW H) → Nat
  | [] => 0
  | x :: r => uptoBulkEntry x + uptoBulkEntries r
def uptoBulkEntry {H : Type} : Lit × DataW H → Nat
  | (.string bytes, d) => bytes.length + uptoBulk d + 1
  | (_, d) => uptoBulk d + 1
 end
def uptoSmall : (H : Type) → List (DataW H) → Bool := fun _ ds => decide (uptoBulkAll ds ≤ 1048576)
def OpenSpec.upto (s : _root_.Go.ChangeSpec) : _root_.Go.OpenSpec := { _root_.Go.OpenSpec.ofChange s with cond := some uptoSmall }

/-- 'alidadelaw22.SegsWays', WHERE WHAT IT READS IS OF BULK AT MOST 1048576: true; the input reads as it did. -/
def segsWaysUptoRow : OpenClaim := { program := "ytmgkmammkmlakaagreat", sum := "58829827aeb618a7c0a9d3e450bc90cc833919aaa95bf5c65a7615314f38d3b0", func := "alidade/alidadelaw22.SegsWays", spec := "segsWays", inPlace := ["slices.overlaps[alidade/api.Span]"], unfollowed := true, recurses := true, apart := false, narrowed := true }
def SegsWaysUptoSaid : Prop := segsWaysUptoRow.holds Tryz.pinned (OpenSpec.upto segsWaysSpec)

/-- 'alidadelaw22.SegsBegins', WHERE WHAT IT READS IS OF BULK AT MOST 1048576: true; the input reads as it did. -/
def segsBeginsUptoRow : OpenClaim := { program := "ytmgkmammkmlakaagreat", sum := "58829827aeb618a7c0a9d3e450bc90cc833919aaa95bf5c65a7615314f38d3b0", func := "alidade/alidadelaw22.SegsBegins", spec := "segsBegins", inPlace := ["slices.overlaps[alidade/api.Span]"], unfollowed := true, recurses := true, apart := false, narrowed := true }
def SegsBeginsUptoSaid : Prop := segsBeginsUptoRow.holds Tryz.pinned (OpenSpec.upto segsBeginsSpec)

/-- 'alidadelaw22.SegsBack', WHERE WHAT IT READS IS OF BULK AT MOST 1048576: true; the input reads as it did. -/
def segsBackUptoRow : OpenClaim := { program := "ytmgkmammkmlakaagreat", sum := "58829827aeb618a7c0a9d3e450bc90cc833919aaa95bf5c65a7615314f38d3b0", func := "alidade/alidadelaw22.SegsBack", spec := "segsBack", inPlace := ["slices.overlaps[alidade/api.Span]"], unfollowed := true, recurses := true, apart := false, narrowed := true }
def SegsBackUptoSaid : Prop := segsBackUptoRow.holds Tryz.pinned (OpenSpec.upto segsBackSpec)

/-- 'alidadelaw22.SegsPlays', WHERE WHAT IT READS IS OF BULK AT MOST 1048576: true; the input reads as it did. -/
def segsPlaysUptoRow : OpenClaim := { program := "ytmgkmammkmlakaagreat", sum := "58829827aeb618a7c0a9d3e450bc90cc833919aaa95bf5c65a7615314f38d3b0", func := "alidade/alidadelaw22.SegsPlays", spec := "segsPlays", inPlace := ["slices.overlaps[alidade/api.Span]"], unfollowed := true, recurses := true, apart := false, narrowed := true }
def SegsPlaysUptoSaid : Prop := segsPlaysUptoRow.holds Tryz.pinned (OpenSpec.upto segsPlaysSpec)

/-- 'alidadelaw22.SegsNone', WHERE WHAT IT READS IS OF BULK AT MOST 1048576: true; the input reads as it did. -/
def segsNoneUptoRow : OpenClaim := { program := "ytmgkmammkmlakaagreat", sum := "58829827aeb618a7c0a9d3e450bc90cc833919aaa95bf5c65a7615314f38d3b0", func := "alidade/alidadelaw22.SegsNone", spec := "segsNone", inPlace := ["slices.overlaps[alidade/api.Span]"], unfollowed := true, recurses := true, apart := false, narrowed := true }
def SegsNoneUptoSaid : Prop := segsNoneUptoRow.holds Tryz.pinned (OpenSpec.upto segsNoneSpec)

/-- 'alidadelaw23.SegcurStabs', WHERE WHAT IT READS IS OF BULK AT MOST 1048576: true; the input reads as it did. -/
def segcurStabsUptoRow : OpenClaim := { program := "ytmgkmammkmlakaagreat", sum := "58829827aeb618a7c0a9d3e450bc90cc833919aaa95bf5c65a7615314f38d3b0", func := "alidade/alidadelaw23.SegcurStabs", spec := "segcurStabs", inPlace := ["slices.overlaps[alidade/api.Span]"], unfollowed := true, recurses := true, apart := false, narrowed := true }
def SegcurStabsUptoSaid : Prop := segcurStabsUptoRow.holds Tryz.pinned (OpenSpec.upto segcurStabsSpec)

/-- 'alidadelaw23.SegcurNone', WHERE WHAT IT READS IS OF BULK AT MOST 1048576: true; the input reads as it did. -/
def segcurNoneUptoRow : OpenClaim := { program := "ytmgkmammkmlakaagreat", sum := "58829827aeb618a7c0a9d3e450bc90cc833919aaa95bf5c65a7615314f38d3b0", func := "alidade/alidadelaw23.SegcurNone", spec := "segcurNone", inPlace := ["slices.overlaps[alidade/api.Span]"], unfollowed := true, recurses := true, apart := false, narrowed := true }
def SegcurNoneUptoSaid : Prop := segcurNoneUptoRow.holds Tryz.pinned (OpenSpec.upto segcurNoneSpec)

/-- 'alidadelaw23.SegcurFinds', WHERE WHAT IT READS IS OF BULK AT MOST 1048576: true; the input reads as it did. -/
def segcurFindsUptoRow : OpenClaim := { program := "ytmgkmammkmlakaagreat", sum := "58829827aeb618a7c0a9d3e450bc90cc833919aaa95bf5c65a7615314f38d3b0", func := "alidade/alidadelaw23.SegcurFinds", spec := "segcurFinds", inPlace := ["slices.overlaps[alidade/api.Span]"], unfollowed := true, recurses := true, apart := false, narrowed := true }
def SegcurFindsUptoSaid : Prop := segcurFindsUptoRow.holds Tryz.pinned (OpenSpec.upto segcurFindsSpec)

end Rows
end Go.Proofs.YtmgkmammkmlakaaGreat
