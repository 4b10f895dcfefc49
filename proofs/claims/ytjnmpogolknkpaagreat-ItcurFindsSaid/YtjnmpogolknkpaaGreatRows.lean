/-
  No cell of these rows narrows 'for every input' (looked for: loops, veiled, ifaces, maps, wideKeys, modest, calm, conditions, laid).
  DERIVED. THE GIVEN ROWS OF THIS SEAT. 9 by the template 'for every input the law returns true; each argument reads behind the call as it read before'; 0 by the template 'total and deterministic' (their statements: YtjnmpogolknkpaaGreatTotals.lean).
  GIVEN WITH THE SEED: the statements are not yours to turn. If you find one false, say at which input.
  Laid BY PROGRAM, IN A SANDBOX (cutbox-rows.mjs): the forced cells as the released guide's own fill.sh prints them over the translation 209edd2b18bd7bc3… (all of the seat's roots in one cut). By AI agents, Wed Nov 11 2026. No macro, syntax, notation, axiom, sorry.
-/
import Derived.Test.YtjnmpogolknkpaaGreatChecked
import GoSem.Claim
import GoSem.ClaimJoined
import GoSem.ClaimMapViews
import Derived.JoinedTies
import Derived.KernelRfl
namespace Go.Proofs.YtjnmpogolknkpaaGreat
/- THE CELL 'sum', in the pinned program and in every row, IS THE sha256 OF THE DUMP (.gsa) THAT YtjnmpogolknkpaaGreatProg.lean LOADS. Nothing in Lean hashes anything: it is a label: what it is worth is what the hold of that sum in a sandbox is worth. -/
noncomputable def Tryz.pinned : Pinned := { name := "ytjnmpogolknkpaagreat", sum := "209edd2b18bd7bc3d18237c8b3d4ded8cc428b41fb007fa137e3caf69e8f55a8", checked := Tryz.checked }
namespace Rows
def none {H : Type} : Left H := { results := [], args := [] }

/-- 'alidadelaw20.ItreeBack': WHATEVER THE INPUT: true; the input reads as it did. -/
def itreeBackSpec : ChangeSpec := { name := "itreeBack", fn := fun _ => fun
  | [d1, d2, d3] => { results := [.lit (.bool true)], args := [d1, d2, d3] }
  | _ => none }
def itreeBackRow : OpenClaim := { program := "ytjnmpogolknkpaagreat", sum := "209edd2b18bd7bc3d18237c8b3d4ded8cc428b41fb007fa137e3caf69e8f55a8", func := "alidade/alidadelaw20.ItreeBack", spec := "itreeBack", inPlace := ["slices.overlaps[alidade/api.Span]"], unfollowed := true, recurses := true, apart := false }
def ItreeBackSaid : Prop := itreeBackRow.holds Tryz.pinned (OpenSpec.ofChange itreeBackSpec)

/-- ITS FALSE NEIGHBOUR: 'it returns false'. Refute it at one input. -/
def itreeBackWrong : ChangeSpec := { name := "itreeBack", fn := fun _ => fun
  | [d1, d2, d3] => { results := [.lit (.bool false)], args := [d1, d2, d3] }
  | _ => none }
def ItreeBackWrongFalsely : Prop := itreeBackRow.holds Tryz.pinned (OpenSpec.ofChange itreeBackWrong)

/-- 'alidadelaw20.ItreePlays': WHATEVER THE INPUT: true; the input reads as it did. -/
def itreePlaysSpec : ChangeSpec := { name := "itreePlays", fn := fun _ => fun
  | [d1, d2, d3] => { results := [.lit (.bool true)], args := [d1, d2, d3] }
  | _ => none }
def itreePlaysRow : OpenClaim := { program := "ytjnmpogolknkpaagreat", sum := "209edd2b18bd7bc3d18237c8b3d4ded8cc428b41fb007fa137e3caf69e8f55a8", func := "alidade/alidadelaw20.ItreePlays", spec := "itreePlays", inPlace := ["slices.overlaps[alidade/api.Span]"], unfollowed := true, recurses := true, apart := false }
def ItreePlaysSaid : Prop := itreePlaysRow.holds Tryz.pinned (OpenSpec.ofChange itreePlaysSpec)

/-- ITS FALSE NEIGHBOUR: 'it returns false'. Refute it at one input. -/
def itreePlaysWrong : ChangeSpec := { name := "itreePlays", fn := fun _ => fun
  | [d1, d2, d3] => { results := [.lit (.bool false)], args := [d1, d2, d3] }
  | _ => none }
def ItreePlaysWrongFalsely : Prop := itreePlaysRow.holds Tryz.pinned (OpenSpec.ofChange itreePlaysWrong)

/-- 'alidadelaw20.ItreeLine': WHATEVER THE INPUT: true; the input reads as it did. -/
def itreeLineSpec : ChangeSpec := { name := "itreeLine", fn := fun _ => fun
  | [d1, d2] => { results := [.lit (.bool true)], args := [d1, d2] }
  | _ => none }
def itreeLineRow : OpenClaim := { program := "ytjnmpogolknkpaagreat", sum := "209edd2b18bd7bc3d18237c8b3d4ded8cc428b41fb007fa137e3caf69e8f55a8", func := "alidade/alidadelaw20.ItreeLine", spec := "itreeLine", inPlace := ["slices.overlaps[alidade/api.Span]"], unfollowed := true, recurses := true, apart := false }
def ItreeLineSaid : Prop := itreeLineRow.holds Tryz.pinned (OpenSpec.ofChange itreeLineSpec)

/-- ITS FALSE NEIGHBOUR: 'it returns false'. Refute it at one input. -/
def itreeLineWrong : ChangeSpec := { name := "itreeLine", fn := fun _ => fun
  | [d1, d2] => { results := [.lit (.bool false)], args := [d1, d2] }
  | _ => none }
def ItreeLineWrongFalsely : Prop := itreeLineRow.holds Tryz.pinned (OpenSpec.ofChange itreeLineWrong)

/-- 'alidadelaw20.ItreeLooks': WHATEVER THE INPUT: true; the input reads as it did. -/
def itreeLooksSpec : ChangeSpec := { name := "itreeLooks", fn := fun _ => fun
  | [d1, d2] => { results := [.lit (.bool true)], args := [d1, d2] }
  | _ => none }
def itreeLooksRow : OpenClaim := { program := "ytjnmpogolknkpaagreat", sum := "209edd2b18bd7bc3d18237c8b3d4ded8cc428b41fb007fa137e3caf69e8f55a8", func := "alidade/alidadelaw20.ItreeLooks", spec := "itreeLooks", inPlace := ["slices.overlaps[alidade/api.Span]"], unfollowed := true, recurses := true, apart := false }
def ItreeLooksSaid : Prop := itreeLooksRow.holds Tryz.pinned (OpenSpec.ofChange itreeLooksSpec)

/-- ITS FALSE NEIGHBOUR: 'it returns false'. Refute it at one input. -/
def itreeLooksWrong : ChangeSpec := { name := "itreeLooks", fn := fun _ => fun
  | [d1, d2] => { results := [.lit (.bool false)], args := [d1, d2] }
  | _ => none }
def ItreeLooksWrongFalsely : Prop := itreeLooksRow.holds Tryz.pinned (OpenSpec.ofChange itreeLooksWrong)

/-- 'alidadelaw20.ItreeNone': WHATEVER THE INPUT: true; the input reads as it did. -/
def itreeNoneSpec : ChangeSpec := { name := "itreeNone", fn := fun _ => fun
  | [d1, d2] => { results := [.lit (.bool true)], args := [d1, d2] }
  | _ => none }
def itreeNoneRow : OpenClaim := { program := "ytjnmpogolknkpaagreat", sum := "209edd2b18bd7bc3d18237c8b3d4ded8cc428b41fb007fa137e3caf69e8f55a8", func := "alidade/alidadelaw20.ItreeNone", spec := "itreeNone", inPlace := ["slices.overlaps[alidade/api.Span]"], unfollowed := true, recurses := true, apart := false }
def ItreeNoneSaid : Prop := itreeNoneRow.holds Tryz.pinned (OpenSpec.ofChange itreeNoneSpec)

/-- ITS FALSE NEIGHBOUR: 'it returns false'. Refute it at one input. -/
def itreeNoneWrong : ChangeSpec := { name := "itreeNone", fn := fun _ => fun
  | [d1, d2] => { results := [.lit (.bool false)], args := [d1, d2] }
  | _ => none }
def ItreeNoneWrongFalsely : Prop := itreeNoneRow.holds Tryz.pinned (OpenSpec.ofChange itreeNoneWrong)

/-- 'alidadelaw21.ItcurNone': WHATEVER THE INPUT: true; the input reads as it did. -/
def itcurNoneSpec : ChangeSpec := { name := "itcurNone", fn := fun _ => fun
  | [d1, d2] => { results := [.lit (.bool true)], args := [d1, d2] }
  | _ => none }
def itcurNoneRow : OpenClaim := { program := "ytjnmpogolknkpaagreat", sum := "209edd2b18bd7bc3d18237c8b3d4ded8cc428b41fb007fa137e3caf69e8f55a8", func := "alidade/alidadelaw21.ItcurNone", spec := "itcurNone", inPlace := ["slices.overlaps[alidade/api.Span]"], unfollowed := true, recurses := true, apart := false }
def ItcurNoneSaid : Prop := itcurNoneRow.holds Tryz.pinned (OpenSpec.ofChange itcurNoneSpec)

/-- ITS FALSE NEIGHBOUR: 'it returns false'. Refute it at one input. -/
def itcurNoneWrong : ChangeSpec := { name := "itcurNone", fn := fun _ => fun
  | [d1, d2] => { results := [.lit (.bool false)], args := [d1, d2] }
  | _ => none }
def ItcurNoneWrongFalsely : Prop := itcurNoneRow.holds Tryz.pinned (OpenSpec.ofChange itcurNoneWrong)

/-- 'alidadelaw21.ItcurFinds': WHATEVER THE INPUT: true; the input reads as it did. -/
def itcurFindsSpec : ChangeSpec := { name := "itcurFinds", fn := fun _ => fun
  | [d1, d2, d3] => { results := [.lit (.bool true)], args := [d1, d2, d3] }
  | _ => none }
def itcurFindsRow : OpenClaim := { program := "ytjnmpogolknkpaagreat", sum := "209edd2b18bd7bc3d18237c8b3d4ded8cc428b41fb007fa137e3caf69e8f55a8", func := "alidade/alidadelaw21.ItcurFinds", spec := "itcurFinds", inPlace := ["slices.overlaps[alidade/api.Span]"], unfollowed := true, recurses := true, apart := false }
def ItcurFindsSaid : Prop := itcurFindsRow.holds Tryz.pinned (OpenSpec.ofChange itcurFindsSpec)

/-- ITS FALSE NEIGHBOUR: 'it returns false'. Refute it at one input. -/
def itcurFindsWrong : ChangeSpec := { name := "itcurFinds", fn := fun _ => fun
  | [d1, d2, d3] => { results := [.lit (.bool false)], args := [d1, d2, d3] }
  | _ => none }
def ItcurFindsWrongFalsely : Prop := itcurFindsRow.holds Tryz.pinned (OpenSpec.ofChange itcurFindsWrong)

/-- 'alidadelaw21.ItcurAborts': WHATEVER THE INPUT: true; the input reads as it did. -/
def itcurAbortsSpec : ChangeSpec := { name := "itcurAborts", fn := fun _ => fun
  | [d1, d2, d3] => { results := [.lit (.bool true)], args := [d1, d2, d3] }
  | _ => none }
def itcurAbortsRow : OpenClaim := { program := "ytjnmpogolknkpaagreat", sum := "209edd2b18bd7bc3d18237c8b3d4ded8cc428b41fb007fa137e3caf69e8f55a8", func := "alidade/alidadelaw21.ItcurAborts", spec := "itcurAborts", inPlace := ["slices.overlaps[alidade/api.Span]"], unfollowed := true, recurses := true, apart := false }
def ItcurAbortsSaid : Prop := itcurAbortsRow.holds Tryz.pinned (OpenSpec.ofChange itcurAbortsSpec)

/-- ITS FALSE NEIGHBOUR: 'it returns false'. Refute it at one input. -/
def itcurAbortsWrong : ChangeSpec := { name := "itcurAborts", fn := fun _ => fun
  | [d1, d2, d3] => { results := [.lit (.bool false)], args := [d1, d2, d3] }
  | _ => none }
def ItcurAbortsWrongFalsely : Prop := itcurAbortsRow.holds Tryz.pinned (OpenSpec.ofChange itcurAbortsWrong)

/-- 'alidadelaw21.ItcurStabs': WHATEVER THE INPUT: true; the input reads as it did. -/
def itcurStabsSpec : ChangeSpec := { name := "itcurStabs", fn := fun _ => fun
  | [d1, d2, d3] => { results := [.lit (.bool true)], args := [d1, d2, d3] }
  | _ => none }
def itcurStabsRow : OpenClaim := { program := "ytjnmpogolknkpaagreat", sum := "209edd2b18bd7bc3d18237c8b3d4ded8cc428b41fb007fa137e3caf69e8f55a8", func := "alidade/alidadelaw21.ItcurStabs", spec := "itcurStabs", inPlace := ["slices.overlaps[alidade/api.Span]"], unfollowed := true, recurses := true, apart := false }
def ItcurStabsSaid : Prop := itcurStabsRow.holds Tryz.pinned (OpenSpec.ofChange itcurStabsSpec)

/-- ITS FALSE NEIGHBOUR: 'it returns false'. Refute it at one input. -/
def itcurStabsWrong : ChangeSpec := { name := "itcurStabs", fn := fun _ => fun
  | [d1, d2, d3] => { results := [.lit (.bool false)], args := [d1, d2, d3] }
  | _ => none }
def ItcurStabsWrongFalsely : Prop := itcurStabsRow.holds Tryz.pinned (OpenSpec.ofChange itcurStabsWrong)

/- THE SECOND FORM. 'bulk': how many values and letters a reading holds, each counted each time it is reached (what is shared counts as often as it is met; a slice's spare places count too). A statement '..UptoSaid' is the law's where the arguments, and the package variables that the reading takes, are together of bulk at most 1048576: NARROWER than '..Said'. Prove '..Said' where nothing that the law and all that it calls make is longer than what came in: it says more and counts as full. Else prove '..UptoSaid'. A law counts once. -/
mutual
def uptoBulk {H : Type} : DataW H → Nat
  | .lit (.string bytes) => bytes.length + 1
  | .lit _ => 1
  | .nil => 1
  | .ptr d => uptoBulk d + 1
  | .slice elems spare => uptoBulkAll elems + uptoBulkAll spare + 1
  | .agg parts => uptoBulkAll parts + 1
  | .iface _ d => uptoBulk d + 1
  | .map entries => uptoBulkEntries entries + 1
  | .held _ => 1
def uptoBulkAll {H : Type} : List (DataW H) → Nat
  | [] => 0
  | d :: r => uptoBulk d + uptoBulkAll r
def uptoBulkEntries {H : Type} : List (Lit × DataW H) → Nat
  | [] => 0
  | x :: r => uptoBulkEntry x + uptoBulkEntries r
def uptoBulkEntry {H : Type} : Lit × DataW H → Nat
  | (.string bytes, d) => bytes.length + uptoBulk d + 1
  | (_, d) => uptoBulk d + 1
 end
def uptoSmall : (H : Type) → List (DataW H) → Bool := fun _ ds => decide (uptoBulkAll ds ≤ 1048576)
def OpenSpec.upto (s : _root_.Go.ChangeSpec) : _root_.Go.OpenSpec := { _root_.Go.OpenSpec.ofChange s with cond := some uptoSmall }

/-- 'alidadelaw20.ItreeBack', WHERE WHAT IT READS IS OF BULK AT MOST 1048576: true; the input reads as it did. -/
def itreeBackUptoRow : OpenClaim := { program := "ytjnmpogolknkpaagreat", sum := "209edd2b18bd7bc3d18237c8b3d4ded8cc428b41fb007fa137e3caf69e8f55a8", func := "alidade/alidadelaw20.ItreeBack", spec := "itreeBack", inPlace := ["slices.overlaps[alidade/api.Span]"], unfollowed := true, recurses := true, apart := false, narrowed := true }
def ItreeBackUptoSaid : Prop := itreeBackUptoRow.holds Tryz.pinned (OpenSpec.upto itreeBackSpec)

/-- 'alidadelaw20.ItreePlays', WHERE WHAT IT READS IS OF BULK AT MOST 1048576: true; the input reads as it did. -/
def itreePlaysUptoRow : OpenClaim := { program := "ytjnmpogolknkpaagreat", sum := "209edd2b18bd7bc3d18237c8b3d4ded8cc428b41fb007fa137e3caf69e8f55a8", func := "alidade/alidadelaw20.ItreePlays", spec := "itreePlays", inPlace := ["slices.overlaps[alidade/api.Span]"], unfollowed := true, recurses := true, apart := false, narrowed := true }
def ItreePlaysUptoSaid : Prop := itreePlaysUptoRow.holds Tryz.pinned (OpenSpec.upto itreePlaysSpec)

/-- 'alidadelaw20.ItreeLine', WHERE WHAT IT READS IS OF BULK AT MOST 1048576: true; the input reads as it did. -/
def itreeLineUptoRow : OpenClaim := { program := "ytjnmpogolknkpaagreat", sum := "209edd2b18bd7bc3d18237c8b3d4ded8cc428b41fb007fa137e3caf69e8f55a8", func := "alidade/alidadelaw20.ItreeLine", spec := "itreeLine", inPlace := ["slices.overlaps[alidade/api.Span]"], unfollowed := true, recurses := true, apart := false, narrowed := true }
def ItreeLineUptoSaid : Prop := itreeLineUptoRow.holds Tryz.pinned (OpenSpec.upto itreeLineSpec)

/-- 'alidadelaw20.ItreeLooks', WHERE WHAT IT READS IS OF BULK AT MOST 1048576: true; the input reads as it did. -/
def itreeLooksUptoRow : OpenClaim := { program := "ytjnmpogolknkpaagreat", sum := "209edd2b18bd7bc3d18237c8b3d4ded8cc428b41fb007fa137e3caf69e8f55a8", func := "alidade/alidadelaw20.ItreeLooks", spec := "itreeLooks", inPlace := ["slices.overlaps[alidade/api.Span]"], unfollowed := true, recurses := true, apart := false, narrowed := true }
def ItreeLooksUptoSaid : Prop := itreeLooksUptoRow.holds Tryz.pinned (OpenSpec.upto itreeLooksSpec)

/-- 'alidadelaw20.ItreeNone', WHERE WHAT IT READS IS OF BULK AT MOST 1048576: true; the input reads as it did. -/
def itreeNoneUptoRow : OpenClaim := { program := "ytjnmpogolknkpaagreat", sum := "209edd2b18bd7bc3d18237c8b3d4ded8cc428b41fb007fa137e3caf69e8f55a8", func := "alidade/alidadelaw20.ItreeNone", spec := "itreeNone", inPlace := ["slices.overlaps[alidade/api.Span]"], unfollowed := true, recurses := true, apart := false, narrowed := true }
def ItreeNoneUptoSaid : Prop := itreeNoneUptoRow.holds Tryz.pinned (OpenSpec.upto itreeNoneSpec)

/-- 'alidadelaw21.ItcurNone', WHERE WHAT IT READS IS OF BULK AT MOST 1048576: true; the input reads as it did. -/
def itcurNoneUptoRow : OpenClaim := { program := "ytjnmpogolknkpaagreat", sum := "209edd2b18bd7bc3d18237c8b3d4ded8cc428b41fb007fa137e3caf69e8f55a8", func := "alidade/alidadelaw21.ItcurNone", spec := "itcurNone", inPlace := ["slices.overlaps[alidade/api.Span]"], unfollowed := true, recurses := true, apart := false, narrowed := true }
def ItcurNoneUptoSaid : Prop := itcurNoneUptoRow.holds Tryz.pinned (OpenSpec.upto itcurNoneSpec)

/-- 'alidadelaw21.ItcurFinds', WHERE WHAT IT READS IS OF BULK AT MOST 1048576: true; the input reads as it did. -/
def itcurFindsUptoRow : OpenClaim := { program := "ytjnmpogolknkpaagreat", sum := "209edd2b18bd7bc3d18237c8b3d4ded8cc428b41fb007fa137e3caf69e8f55a8", func := "alidade/alidadelaw21.ItcurFinds", spec := "itcurFinds", inPlace := ["slices.overlaps[alidade/api.Span]"], unfollowed := true, recurses := true, apart := false, narrowed := true }
def ItcurFindsUptoSaid : Prop := itcurFindsUptoRow.holds Tryz.pinned (OpenSpec.upto itcurFindsSpec)

/-- 'alidadelaw21.ItcurAborts', WHERE WHAT IT READS IS OF BULK AT MOST 1048576: true; the input reads as it did. -/
def itcurAbortsUptoRow : OpenClaim := { program := "ytjnmpogolknkpaagreat", sum := "209edd2b18bd7bc3d18237c8b3d4ded8cc428b41fb007fa137e3caf69e8f55a8", func := "alidade/alidadelaw21.ItcurAborts", spec := "itcurAborts", inPlace := ["slices.overlaps[alidade/api.Span]"], unfollowed := true, recurses := true, apart := false, narrowed := true }
def ItcurAbortsUptoSaid : Prop := itcurAbortsUptoRow.holds Tryz.pinned (OpenSpec.upto itcurAbortsSpec)

/-- 'alidadelaw21.ItcurStabs', WHERE WHAT IT READS IS OF BULK AT MOST 1048576: true; the input reads as it did. -/
def itcurStabsUptoRow : OpenClaim := { program := "ytjnmpogolknkpaagreat", sum := "209edd2b18bd7bc3d18237c8b3d4ded8cc428b41fb007fa137e3caf69e8f55a8", func := "alidade/alidadelaw21.ItcurStabs", spec := "itcurStabs", inPlace := ["slices.overlaps[alidade/api.Span]"], unfollowed := true, recurses := true, apart := false, narrowed := true }
def ItcurStabsUptoSaid : Prop := itcurStabsUptoRow.holds Tryz.pinned (OpenSpec.upto itcurStabsSpec)

end Rows
end Go.Proofs.YtjnmpogolknkpaaGreat
