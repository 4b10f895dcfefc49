/-
  No cell of these rows narrows 'for every input' (looked for: loops, veiled, ifaces, maps, wideKeys, modest, calm, conditions, laid).
  DERIVED. THE GIVEN ROWS OF THIS SEAT. 7 by the template 'for every input the law returns true; each argument reads behind the call as it read before'; 0 by the template 'total and deterministic' (their statements: YtalcanejhniepaaTotals.lean).
  GIVEN WITH THE SEED: the statements are not yours to turn. If you find one false, say at which input.
  Laid BY PROGRAM, IN A SANDBOX (cutbox-rows.mjs): the forced cells as the released guide's own fill.sh prints them over the translation 70037d0349f6ad31… (all of the seat's roots in one cut). By AI agents, Wed Nov 11 2026. No macro, syntax, notation, axiom, sorry.
-/
import Derived.Test.YtalcanejhniepaaChecked
import GoSem.Claim
import GoSem.ClaimJoined
import GoSem.ClaimMapViews
import Derived.JoinedTies
import Derived.KernelRfl
namespace Go.Proofs.Ytalcanejhniepaa
/- THE CELL 'sum', in the pinned program and in every row, IS THE sha256 OF THE DUMP (.gsa) THAT YtalcanejhniepaaProg.lean LOADS. Nothing in Lean hashes anything: it is a label: what it is worth is what the hold of that sum in a sandbox is worth. -/
noncomputable def Try.pinned : Pinned := { name := "ytalcanejhniepaa", sum := "70037d0349f6ad31bcddfbc2329b59e53697ed498a659ba7ae765893c001f66f", checked := Try.checked }
namespace Rows
def none {H : Type} : Left H := { results := [], args := [] }

/-- 'alidadelaw15.PstcurFalls': WHATEVER THE INPUT: true; the input reads as it did. -/
def pstcurFallsSpec : ChangeSpec := { name := "pstcurFalls", fn := fun _ => fun
  | [d1, d2, d3] => { results := [.lit (.bool true)], args := [d1, d2, d3] }
  | _ => none }
def pstcurFallsRow : OpenClaim := { program := "ytalcanejhniepaa", sum := "70037d0349f6ad31bcddfbc2329b59e53697ed498a659ba7ae765893c001f66f", func := "alidade/alidadelaw15.PstcurFalls", spec := "pstcurFalls", inPlace := ["slices.overlaps[alidade/api.Point]"], unfollowed := true, recurses := true, apart := false }
def PstcurFallsSaid : Prop := pstcurFallsRow.holds Try.pinned (OpenSpec.ofChange pstcurFallsSpec)

/-- ITS FALSE NEIGHBOUR: 'it returns false'. Refute it at one input. -/
def pstcurFallsWrong : ChangeSpec := { name := "pstcurFalls", fn := fun _ => fun
  | [d1, d2, d3] => { results := [.lit (.bool false)], args := [d1, d2, d3] }
  | _ => none }
def PstcurFallsWrongFalsely : Prop := pstcurFallsRow.holds Try.pinned (OpenSpec.ofChange pstcurFallsWrong)

/-- 'alidadelaw14.PstBack': WHATEVER THE INPUT: true; the input reads as it did. -/
def pstBackSpec : ChangeSpec := { name := "pstBack", fn := fun _ => fun
  | [d1, d2, d3] => { results := [.lit (.bool true)], args := [d1, d2, d3] }
  | _ => none }
def pstBackRow : OpenClaim := { program := "ytalcanejhniepaa", sum := "70037d0349f6ad31bcddfbc2329b59e53697ed498a659ba7ae765893c001f66f", func := "alidade/alidadelaw14.PstBack", spec := "pstBack", inPlace := ["slices.overlaps[alidade/api.Point]"], unfollowed := true, recurses := true, apart := false }
def PstBackSaid : Prop := pstBackRow.holds Try.pinned (OpenSpec.ofChange pstBackSpec)

/-- ITS FALSE NEIGHBOUR: 'it returns false'. Refute it at one input. -/
def pstBackWrong : ChangeSpec := { name := "pstBack", fn := fun _ => fun
  | [d1, d2, d3] => { results := [.lit (.bool false)], args := [d1, d2, d3] }
  | _ => none }
def PstBackWrongFalsely : Prop := pstBackRow.holds Try.pinned (OpenSpec.ofChange pstBackWrong)

/-- 'alidadelaw14.PstLine': WHATEVER THE INPUT: true; the input reads as it did. -/
def pstLineSpec : ChangeSpec := { name := "pstLine", fn := fun _ => fun
  | [d1, d2] => { results := [.lit (.bool true)], args := [d1, d2] }
  | _ => none }
def pstLineRow : OpenClaim := { program := "ytalcanejhniepaa", sum := "70037d0349f6ad31bcddfbc2329b59e53697ed498a659ba7ae765893c001f66f", func := "alidade/alidadelaw14.PstLine", spec := "pstLine", inPlace := ["slices.overlaps[alidade/api.Point]"], unfollowed := true, recurses := true, apart := false }
def PstLineSaid : Prop := pstLineRow.holds Try.pinned (OpenSpec.ofChange pstLineSpec)

/-- ITS FALSE NEIGHBOUR: 'it returns false'. Refute it at one input. -/
def pstLineWrong : ChangeSpec := { name := "pstLine", fn := fun _ => fun
  | [d1, d2] => { results := [.lit (.bool false)], args := [d1, d2] }
  | _ => none }
def PstLineWrongFalsely : Prop := pstLineRow.holds Try.pinned (OpenSpec.ofChange pstLineWrong)

/-- 'alidadelaw14.PstPlays': WHATEVER THE INPUT: true; the input reads as it did. -/
def pstPlaysSpec : ChangeSpec := { name := "pstPlays", fn := fun _ => fun
  | [d1, d2, d3] => { results := [.lit (.bool true)], args := [d1, d2, d3] }
  | _ => none }
def pstPlaysRow : OpenClaim := { program := "ytalcanejhniepaa", sum := "70037d0349f6ad31bcddfbc2329b59e53697ed498a659ba7ae765893c001f66f", func := "alidade/alidadelaw14.PstPlays", spec := "pstPlays", inPlace := ["slices.overlaps[alidade/api.Point]"], unfollowed := true, recurses := true, apart := false }
def PstPlaysSaid : Prop := pstPlaysRow.holds Try.pinned (OpenSpec.ofChange pstPlaysSpec)

/-- ITS FALSE NEIGHBOUR: 'it returns false'. Refute it at one input. -/
def pstPlaysWrong : ChangeSpec := { name := "pstPlays", fn := fun _ => fun
  | [d1, d2, d3] => { results := [.lit (.bool false)], args := [d1, d2, d3] }
  | _ => none }
def PstPlaysWrongFalsely : Prop := pstPlaysRow.holds Try.pinned (OpenSpec.ofChange pstPlaysWrong)

/-- 'alidadelaw14.PstLooks': WHATEVER THE INPUT: true; the input reads as it did. -/
def pstLooksSpec : ChangeSpec := { name := "pstLooks", fn := fun _ => fun
  | [d1, d2] => { results := [.lit (.bool true)], args := [d1, d2] }
  | _ => none }
def pstLooksRow : OpenClaim := { program := "ytalcanejhniepaa", sum := "70037d0349f6ad31bcddfbc2329b59e53697ed498a659ba7ae765893c001f66f", func := "alidade/alidadelaw14.PstLooks", spec := "pstLooks", inPlace := ["slices.overlaps[alidade/api.Point]"], unfollowed := true, recurses := true, apart := false }
def PstLooksSaid : Prop := pstLooksRow.holds Try.pinned (OpenSpec.ofChange pstLooksSpec)

/-- ITS FALSE NEIGHBOUR: 'it returns false'. Refute it at one input. -/
def pstLooksWrong : ChangeSpec := { name := "pstLooks", fn := fun _ => fun
  | [d1, d2] => { results := [.lit (.bool false)], args := [d1, d2] }
  | _ => none }
def PstLooksWrongFalsely : Prop := pstLooksRow.holds Try.pinned (OpenSpec.ofChange pstLooksWrong)

/-- 'alidadelaw14.PstHighest': WHATEVER THE INPUT: true; the input reads as it did. -/
def pstHighestSpec : ChangeSpec := { name := "pstHighest", fn := fun _ => fun
  | [d1, d2, d3] => { results := [.lit (.bool true)], args := [d1, d2, d3] }
  | _ => none }
def pstHighestRow : OpenClaim := { program := "ytalcanejhniepaa", sum := "70037d0349f6ad31bcddfbc2329b59e53697ed498a659ba7ae765893c001f66f", func := "alidade/alidadelaw14.PstHighest", spec := "pstHighest", inPlace := ["slices.overlaps[alidade/api.Point]"], unfollowed := true, recurses := true, apart := false }
def PstHighestSaid : Prop := pstHighestRow.holds Try.pinned (OpenSpec.ofChange pstHighestSpec)

/-- ITS FALSE NEIGHBOUR: 'it returns false'. Refute it at one input. -/
def pstHighestWrong : ChangeSpec := { name := "pstHighest", fn := fun _ => fun
  | [d1, d2, d3] => { results := [.lit (.bool false)], args := [d1, d2, d3] }
  | _ => none }
def PstHighestWrongFalsely : Prop := pstHighestRow.holds Try.pinned (OpenSpec.ofChange pstHighestWrong)

/-- 'alidadelaw14.PstNone': WHATEVER THE INPUT: true; the input reads as it did. -/
def pstNoneSpec : ChangeSpec := { name := "pstNone", fn := fun _ => fun
  | [d1, d2] => { results := [.lit (.bool true)], args := [d1, d2] }
  | _ => none }
def pstNoneRow : OpenClaim := { program := "ytalcanejhniepaa", sum := "70037d0349f6ad31bcddfbc2329b59e53697ed498a659ba7ae765893c001f66f", func := "alidade/alidadelaw14.PstNone", spec := "pstNone", inPlace := ["slices.overlaps[alidade/api.Point]"], unfollowed := true, recurses := true, apart := false }
def PstNoneSaid : Prop := pstNoneRow.holds Try.pinned (OpenSpec.ofChange pstNoneSpec)

/-- ITS FALSE NEIGHBOUR: 'it returns false'. Refute it at one input. -/
def pstNoneWrong : ChangeSpec := { name := "pstNone", fn := fun _ => fun
  | [d1, d2] => { results := [.lit (.bool false)], args := [d1, d2] }
  | _ => none }
def PstNoneWrongFalsely : Prop := pstNoneRow.holds Try.pinned (OpenSpec.ofChange pstNoneWrong)

/- THE SECOND FORM. 'bulk': how many values and letters a reading holds, each counted each time it is reached (what is shared counts as often as it is met; a slice's spare places count too). A statement '..UptoSaid' is the law's where the arguments, and the package variables that the reading takes, are together of bulk at most 1048576: NARROWER than '..Said'. Prove '..Said' where nothing that the law and all that it calls make is longer than what came in: it says more and counts as full. Else prove '..UptoSaid'. A law counts once. -/
mutual
def uptoBulk {H : Type} : DataW H → Nat
  | .lit (.string bytes) => bytes.length + 1
  | .lit _ => 1
  | .nil => 1
  | .ptr d => uptoBulk d + 1
  | .slice elems spare => uptoBulkAll elems + uptoBulkAll spare + 1
  | .agg parts => uptoBulkAll parts + 1
  | .iface _ d => uptoBulk d + 1
  | .map entries => uptoBulkEntries entries + 1
  | .held _ => 1
def uptoBulkAll {H : Type} : List (DataW H) → Nat
  | [] => 0
  | d :: r => uptoBulk d + uptoBulkAll r
def uptoBulkEntries {H : Type} : List (Lit × DataW H) → Nat
  | [] => 0
  | x :: r => uptoBulkEntry x + uptoBulkEntries r
def uptoBulkEntry {H : Type} : Lit × DataW H → Nat
  | (.string bytes, d) => bytes.length + uptoBulk d + 1
  | (_, d) => uptoBulk d + 1
 end
def uptoSmall : (H : Type) → List (DataW H) → Bool := fun _ ds => decide (uptoBulkAll ds ≤ 1048576)
def OpenSpec.upto (s : _root_.Go.ChangeSpec) : _root_.Go.OpenSpec := { _root_.Go.OpenSpec.ofChange s with cond := some uptoSmall }

/-- 'alidadelaw15.PstcurFalls', WHERE WHAT IT READS IS OF BULK AT MOST 1048576: true; the input reads as it did. -/
def pstcurFallsUptoRow : OpenClaim := { program := "ytalcanejhniepaa", sum := "70037d0349f6ad31bcddfbc2329b59e53697ed498a659ba7ae765893c001f66f", func := "alidade/alidadelaw15.PstcurFalls", spec := "pstcurFalls", inPlace := ["slices.overlaps[alidade/api.Point]"], unfollowed := true, recurses := true, apart := false, narrowed := true }
def PstcurFallsUptoSaid : Prop := pstcurFallsUptoRow.holds Try.pinned (OpenSpec.upto pstcurFallsSpec)

/-- 'alidadelaw14.PstBack', WHERE WHAT IT READS IS OF BULK AT MOST 1048576: true; the input reads as it did. -/
def pstBackUptoRow : OpenClaim := { program := "ytalcanejhniepaa", sum := "70037d0349f6ad31bcddfbc2329b59e53697ed498a659ba7ae765893c001f66f", func := "alidade/alidadelaw14.PstBack", spec := "pstBack", inPlace := ["slices.overlaps[alidade/api.Point]"], unfollowed := true, recurses := true, apart := false, narrowed := true }
def PstBackUptoSaid : Prop := pstBackUptoRow.holds Try.pinned (OpenSpec.upto pstBackSpec)

/-- 'alidadelaw14.PstLine', WHERE WHAT IT READS IS OF BULK AT MOST 1048576: true; the input reads as it did. -/
def pstLineUptoRow : OpenClaim := { program := "ytalcanejhniepaa", sum := "70037d0349f6ad31bcddfbc2329b59e53697ed498a659ba7ae765893c001f66f", func := "alidade/alidadelaw14.PstLine", spec := "pstLine", inPlace := ["slices.overlaps[alidade/api.Point]"], unfollowed := true, recurses := true, apart := false, narrowed := true }
def PstLineUptoSaid : Prop := pstLineUptoRow.holds Try.pinned (OpenSpec.upto pstLineSpec)

/-- 'alidadelaw14.PstPlays', WHERE WHAT IT READS IS OF BULK AT MOST 1048576: true; the input reads as it did. -/
def pstPlaysUptoRow : OpenClaim := { program := "ytalcanejhniepaa", sum := "70037d0349f6ad31bcddfbc2329b59e53697ed498a659ba7ae765893c001f66f", func := "alidade/alidadelaw14.PstPlays", spec := "pstPlays", inPlace := ["slices.overlaps[alidade/api.Point]"], unfollowed := true, recurses := true, apart := false, narrowed := true }
def PstPlaysUptoSaid : Prop := pstPlaysUptoRow.holds Try.pinned (OpenSpec.upto pstPlaysSpec)

/-- 'alidadelaw14.PstLooks', WHERE WHAT IT READS IS OF BULK AT MOST 1048576: true; the input reads as it did. -/
def pstLooksUptoRow : OpenClaim := { program := "ytalcanejhniepaa", sum := "70037d0349f6ad31bcddfbc2329b59e53697ed498a659ba7ae765893c001f66f", func := "alidade/alidadelaw14.PstLooks", spec := "pstLooks", inPlace := ["slices.overlaps[alidade/api.Point]"], unfollowed := true, recurses := true, apart := false, narrowed := true }
def PstLooksUptoSaid : Prop := pstLooksUptoRow.holds Try.pinned (OpenSpec.upto pstLooksSpec)

/-- 'alidadelaw14.PstHighest', WHERE WHAT IT READS IS OF BULK AT MOST 1048576: true; the input reads as it did. -/
def pstHighestUptoRow : OpenClaim := { program := "ytalcanejhniepaa", sum := "70037d0349f6ad31bcddfbc2329b59e53697ed498a659ba7ae765893c001f66f", func := "alidade/alidadelaw14.PstHighest", spec := "pstHighest", inPlace := ["slices.overlaps[alidade/api.Point]"], unfollowed := true, recurses := true, apart := false, narrowed := true }
def PstHighestUptoSaid : Prop := pstHighestUptoRow.holds Try.pinned (OpenSpec.upto pstHighestSpec)

/-- 'alidadelaw14.PstNone', WHERE WHAT IT READS IS OF BULK AT MOST 1048576: true; the input reads as it did. -/
def pstNoneUptoRow : OpenClaim := { program := "ytalcanejhniepaa", sum := "70037d0349f6ad31bcddfbc2329b59e53697ed498a659ba7ae765893c001f66f", func := "alidade/alidadelaw14.PstNone", spec := "pstNone", inPlace := ["slices.overlaps[alidade/api.Point]"], unfollowed := true, recurses := true, apart := false, narrowed := true }
def PstNoneUptoSaid : Prop := pstNoneUptoRow.holds Try.pinned (OpenSpec.upto pstNoneSpec)

end Rows
end Go.Proofs.Ytalcanejhniepaa
