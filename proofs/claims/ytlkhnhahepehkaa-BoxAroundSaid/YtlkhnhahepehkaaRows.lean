/-
  No cell of these rows narrows 'for every input' (looked for: loops, veiled, ifaces, maps, wideKeys, modest, calm, conditions, laid).
  DERIVED. THE GIVEN ROWS OF THIS SEAT. 9 by the template 'for every input the law returns true; each argument reads behind the call as it read before'; 0 by the template 'total and deterministic' (their statements: YtlkhnhahepehkaaTotals.lean).
  GIVEN WITH THE SEED: the statements are not yours to turn. If you find one false, say at which input.
  Laid BY PROGRAM, IN A SANDBOX (cutbox-rows.mjs): the forced cells as the released guide's own fill.sh prints them over the translation a4e18ebd387e2adc… (all of the seat's roots in one cut). By AI agents, Wed Nov 11 2026. No macro, syntax, notation, axiom, sorry.
-/
import Derived.Test.YtlkhnhahepehkaaChecked
import GoSem.Claim
import GoSem.ClaimJoined
import GoSem.ClaimMapViews
import Derived.JoinedTies
import Derived.KernelRfl
namespace Go.Proofs.Ytlkhnhahepehkaa
/- THE CELL 'sum', in the pinned program and in every row, IS THE sha256 OF THE DUMP (.gsa) THAT YtlkhnhahepehkaaProg.lean LOADS. Nothing in Lean hashes anything: it is a label: what it is worth is what the hold of that sum in a sandbox is worth. -/
noncomputable def Try.pinned : Pinned := { name := "ytlkhnhahepehkaa", sum := "a4e18ebd387e2adc5311ee7d7dafab9d4cf44cb3f019d55cb6439a75cb77f2a6", checked := Try.checked }
namespace Rows
def none {H : Type} : Left H := { results := [], args := [] }

/-- 'alidadelaw01.NumSums': WHATEVER THE INPUT: true; the input reads as it did. -/
def numSumsSpec : ChangeSpec := { name := "numSums", fn := fun _ => fun
  | [d1, d2] => { results := [.lit (.bool true)], args := [d1, d2] }
  | _ => none }
def numSumsRow : OpenClaim := { program := "ytlkhnhahepehkaa", sum := "a4e18ebd387e2adc5311ee7d7dafab9d4cf44cb3f019d55cb6439a75cb77f2a6", func := "alidade/alidadelaw01.NumSums", spec := "numSums", apart := false }
def NumSumsSaid : Prop := numSumsRow.holds Try.pinned (OpenSpec.ofChange numSumsSpec)

/-- ITS FALSE NEIGHBOUR: 'it returns false'. Refute it at one input. -/
def numSumsWrong : ChangeSpec := { name := "numSums", fn := fun _ => fun
  | [d1, d2] => { results := [.lit (.bool false)], args := [d1, d2] }
  | _ => none }
def NumSumsWrongFalsely : Prop := numSumsRow.holds Try.pinned (OpenSpec.ofChange numSumsWrong)

/-- 'alidadelaw01.NumBack': WHATEVER THE INPUT: true; the input reads as it did. -/
def numBackSpec : ChangeSpec := { name := "numBack", fn := fun _ => fun
  | [d1, d2] => { results := [.lit (.bool true)], args := [d1, d2] }
  | _ => none }
def numBackRow : OpenClaim := { program := "ytlkhnhahepehkaa", sum := "a4e18ebd387e2adc5311ee7d7dafab9d4cf44cb3f019d55cb6439a75cb77f2a6", func := "alidade/alidadelaw01.NumBack", spec := "numBack", apart := false }
def NumBackSaid : Prop := numBackRow.holds Try.pinned (OpenSpec.ofChange numBackSpec)

/-- ITS FALSE NEIGHBOUR: 'it returns false'. Refute it at one input. -/
def numBackWrong : ChangeSpec := { name := "numBack", fn := fun _ => fun
  | [d1, d2] => { results := [.lit (.bool false)], args := [d1, d2] }
  | _ => none }
def NumBackWrongFalsely : Prop := numBackRow.holds Try.pinned (OpenSpec.ofChange numBackWrong)

/-- 'alidadelaw01.NumMiddles': WHATEVER THE INPUT: true; the input reads as it did. -/
def numMiddlesSpec : ChangeSpec := { name := "numMiddles", fn := fun _ => fun
  | [d1, d2] => { results := [.lit (.bool true)], args := [d1, d2] }
  | _ => none }
def numMiddlesRow : OpenClaim := { program := "ytlkhnhahepehkaa", sum := "a4e18ebd387e2adc5311ee7d7dafab9d4cf44cb3f019d55cb6439a75cb77f2a6", func := "alidade/alidadelaw01.NumMiddles", spec := "numMiddles", apart := false }
def NumMiddlesSaid : Prop := numMiddlesRow.holds Try.pinned (OpenSpec.ofChange numMiddlesSpec)

/-- ITS FALSE NEIGHBOUR: 'it returns false'. Refute it at one input. -/
def numMiddlesWrong : ChangeSpec := { name := "numMiddles", fn := fun _ => fun
  | [d1, d2] => { results := [.lit (.bool false)], args := [d1, d2] }
  | _ => none }
def NumMiddlesWrongFalsely : Prop := numMiddlesRow.holds Try.pinned (OpenSpec.ofChange numMiddlesWrong)

/-- 'alidadelaw01.NumTogether': WHATEVER THE INPUT: true; the input reads as it did. -/
def numTogetherSpec : ChangeSpec := { name := "numTogether", fn := fun _ => fun
  | [d] => { results := [.lit (.bool true)], args := [d] }
  | _ => none }
def numTogetherRow : OpenClaim := { program := "ytlkhnhahepehkaa", sum := "a4e18ebd387e2adc5311ee7d7dafab9d4cf44cb3f019d55cb6439a75cb77f2a6", func := "alidade/alidadelaw01.NumTogether", spec := "numTogether", apart := false }
def NumTogetherSaid : Prop := numTogetherRow.holds Try.pinned (OpenSpec.ofChange numTogetherSpec)

/-- ITS FALSE NEIGHBOUR: 'it returns false'. Refute it at one input. -/
def numTogetherWrong : ChangeSpec := { name := "numTogether", fn := fun _ => fun
  | [d] => { results := [.lit (.bool false)], args := [d] }
  | _ => none }
def NumTogetherWrongFalsely : Prop := numTogetherRow.holds Try.pinned (OpenSpec.ofChange numTogetherWrong)

/-- 'alidadelaw01.NumProducts': WHATEVER THE INPUT: true; the input reads as it did. -/
def numProductsSpec : ChangeSpec := { name := "numProducts", fn := fun _ => fun
  | [d1, d2] => { results := [.lit (.bool true)], args := [d1, d2] }
  | _ => none }
def numProductsRow : OpenClaim := { program := "ytlkhnhahepehkaa", sum := "a4e18ebd387e2adc5311ee7d7dafab9d4cf44cb3f019d55cb6439a75cb77f2a6", func := "alidade/alidadelaw01.NumProducts", spec := "numProducts", apart := false }
def NumProductsSaid : Prop := numProductsRow.holds Try.pinned (OpenSpec.ofChange numProductsSpec)

/-- ITS FALSE NEIGHBOUR: 'it returns false'. Refute it at one input. -/
def numProductsWrong : ChangeSpec := { name := "numProducts", fn := fun _ => fun
  | [d1, d2] => { results := [.lit (.bool false)], args := [d1, d2] }
  | _ => none }
def NumProductsWrongFalsely : Prop := numProductsRow.holds Try.pinned (OpenSpec.ofChange numProductsWrong)

/-- 'alidadelaw04.BoxMeets': WHATEVER THE INPUT: true; the input reads as it did. -/
def boxMeetsSpec : ChangeSpec := { name := "boxMeets", fn := fun _ => fun
  | [d1, d2, d3] => { results := [.lit (.bool true)], args := [d1, d2, d3] }
  | _ => none }
def boxMeetsRow : OpenClaim := { program := "ytlkhnhahepehkaa", sum := "a4e18ebd387e2adc5311ee7d7dafab9d4cf44cb3f019d55cb6439a75cb77f2a6", func := "alidade/alidadelaw04.BoxMeets", spec := "boxMeets", unfollowed := true, recurses := true, apart := false }
def BoxMeetsSaid : Prop := boxMeetsRow.holds Try.pinned (OpenSpec.ofChange boxMeetsSpec)

/-- ITS FALSE NEIGHBOUR: 'it returns false'. Refute it at one input. -/
def boxMeetsWrong : ChangeSpec := { name := "boxMeets", fn := fun _ => fun
  | [d1, d2, d3] => { results := [.lit (.bool false)], args := [d1, d2, d3] }
  | _ => none }
def BoxMeetsWrongFalsely : Prop := boxMeetsRow.holds Try.pinned (OpenSpec.ofChange boxMeetsWrong)

/-- 'alidadelaw04.BoxSpans': WHATEVER THE INPUT: true; the input reads as it did. -/
def boxSpansSpec : ChangeSpec := { name := "boxSpans", fn := fun _ => fun
  | [d1, d2, d3] => { results := [.lit (.bool true)], args := [d1, d2, d3] }
  | _ => none }
def boxSpansRow : OpenClaim := { program := "ytlkhnhahepehkaa", sum := "a4e18ebd387e2adc5311ee7d7dafab9d4cf44cb3f019d55cb6439a75cb77f2a6", func := "alidade/alidadelaw04.BoxSpans", spec := "boxSpans", unfollowed := true, recurses := true, apart := false }
def BoxSpansSaid : Prop := boxSpansRow.holds Try.pinned (OpenSpec.ofChange boxSpansSpec)

/-- ITS FALSE NEIGHBOUR: 'it returns false'. Refute it at one input. -/
def boxSpansWrong : ChangeSpec := { name := "boxSpans", fn := fun _ => fun
  | [d1, d2, d3] => { results := [.lit (.bool false)], args := [d1, d2, d3] }
  | _ => none }
def BoxSpansWrongFalsely : Prop := boxSpansRow.holds Try.pinned (OpenSpec.ofChange boxSpansWrong)

/-- 'alidadelaw04.BoxChecks': WHATEVER THE INPUT: true; the input reads as it did. -/
def boxChecksSpec : ChangeSpec := { name := "boxChecks", fn := fun _ => fun
  | [d1, d2, d3] => { results := [.lit (.bool true)], args := [d1, d2, d3] }
  | _ => none }
def boxChecksRow : OpenClaim := { program := "ytlkhnhahepehkaa", sum := "a4e18ebd387e2adc5311ee7d7dafab9d4cf44cb3f019d55cb6439a75cb77f2a6", func := "alidade/alidadelaw04.BoxChecks", spec := "boxChecks", unfollowed := true, recurses := true, apart := false }
def BoxChecksSaid : Prop := boxChecksRow.holds Try.pinned (OpenSpec.ofChange boxChecksSpec)

/-- ITS FALSE NEIGHBOUR: 'it returns false'. Refute it at one input. -/
def boxChecksWrong : ChangeSpec := { name := "boxChecks", fn := fun _ => fun
  | [d1, d2, d3] => { results := [.lit (.bool false)], args := [d1, d2, d3] }
  | _ => none }
def BoxChecksWrongFalsely : Prop := boxChecksRow.holds Try.pinned (OpenSpec.ofChange boxChecksWrong)

/-- 'alidadelaw04.BoxAround': WHATEVER THE INPUT: true; the input reads as it did. -/
def boxAroundSpec : ChangeSpec := { name := "boxAround", fn := fun _ => fun
  | [d] => { results := [.lit (.bool true)], args := [d] }
  | _ => none }
def boxAroundRow : OpenClaim := { program := "ytlkhnhahepehkaa", sum := "a4e18ebd387e2adc5311ee7d7dafab9d4cf44cb3f019d55cb6439a75cb77f2a6", func := "alidade/alidadelaw04.BoxAround", spec := "boxAround", unfollowed := true, recurses := true, apart := false }
def BoxAroundSaid : Prop := boxAroundRow.holds Try.pinned (OpenSpec.ofChange boxAroundSpec)

/-- ITS FALSE NEIGHBOUR: 'it returns false'. Refute it at one input. -/
def boxAroundWrong : ChangeSpec := { name := "boxAround", fn := fun _ => fun
  | [d] => { results := [.lit (.bool false)], args := [d] }
  | _ => none }
def BoxAroundWrongFalsely : Prop := boxAroundRow.holds Try.pinned (OpenSpec.ofChange boxAroundWrong)

/- THE SECOND FORM. 'bulk': how many values and letters a reading holds, each counted each time it is reached (what is shared counts as often as it is met; a slice's spare places count too). A statement '..UptoSaid' is the law's where the arguments, and the package variables that the reading takes, are together of bulk at most 1048576: NARROWER than '..Said'. Prove '..Said' where nothing that the law and all that it calls make is longer than what came in: it says more and counts as full. Else prove '..UptoSaid'. A law counts once. -/
mutual
def uptoBulk {H : Type} : DataW H → Nat
  | .lit (.string bytes) => bytes.length + 1
  | .lit _ => 1
  | .nil => 1
  | .ptr d => uptoBulk d + 1
  | .slice elems spare => uptoBulkAll elems + uptoBulkAll spare + 1
  | .agg parts => uptoBulkAll parts + 1
  | .iface _ d => uptoBulk d + 1
  | .map entries => uptoBulkEntries entries + 1
  | .held _ => 1
def uptoBulkAll {H : Type} : List (DataW H) → Nat
  | [] => 0
  | d :: r => uptoBulk d + uptoBulkAll r
def uptoBulkEntries {H : Type} : List (Lit × DataW H) → Nat
  | [] => 0
  | x :: r => uptoBulkEntry x + uptoBulkEntries r
def uptoBulkEntry {H : Type} : Lit × DataW H → Nat
  | (.string bytes, d) => bytes.length + uptoBulk d + 1
  | (_, d) => uptoBulk d + 1
 end
def uptoSmall : (H : Type) → List (DataW H) → Bool := fun _ ds => decide (uptoBulkAll ds ≤ 1048576)
def OpenSpec.upto (s : _root_.Go.ChangeSpec) : _root_.Go.OpenSpec := { _root_.Go.OpenSpec.ofChange s with cond := some uptoSmall }

/-- 'alidadelaw01.NumSums', WHERE WHAT IT READS IS OF BULK AT MOST 1048576: true; the input reads as it did. -/
def numSumsUptoRow : OpenClaim := { program := "ytlkhnhahepehkaa", sum := "a4e18ebd387e2adc5311ee7d7dafab9d4cf44cb3f019d55cb6439a75cb77f2a6", func := "alidade/alidadelaw01.NumSums", spec := "numSums", apart := false, narrowed := true }
def NumSumsUptoSaid : Prop := numSumsUptoRow.holds Try.pinned (OpenSpec.upto numSumsSpec)

/-- 'alidadelaw01.NumBack', WHERE WHAT IT READS IS OF BULK AT MOST 1048576: true; the input reads as it did. -/
def numBackUptoRow : OpenClaim := { program := "ytlkhnhahepehkaa", sum := "a4e18ebd387e2adc5311ee7d7dafab9d4cf44cb3f019d55cb6439a75cb77f2a6", func := "alidade/alidadelaw01.NumBack", spec := "numBack", apart := false, narrowed := true }
def NumBackUptoSaid : Prop := numBackUptoRow.holds Try.pinned (OpenSpec.upto numBackSpec)

/-- 'alidadelaw01.NumMiddles', WHERE WHAT IT READS IS OF BULK AT MOST 1048576: true; the input reads as it did. -/
def numMiddlesUptoRow : OpenClaim := { program := "ytlkhnhahepehkaa", sum := "a4e18ebd387e2adc5311ee7d7dafab9d4cf44cb3f019d55cb6439a75cb77f2a6", func := "alidade/alidadelaw01.NumMiddles", spec := "numMiddles", apart := false, narrowed := true }
def NumMiddlesUptoSaid : Prop := numMiddlesUptoRow.holds Try.pinned (OpenSpec.upto numMiddlesSpec)

/-- 'alidadelaw01.NumTogether', WHERE WHAT IT READS IS OF BULK AT MOST 1048576: true; the input reads as it did. -/
def numTogetherUptoRow : OpenClaim := { program := "ytlkhnhahepehkaa", sum := "a4e18ebd387e2adc5311ee7d7dafab9d4cf44cb3f019d55cb6439a75cb77f2a6", func := "alidade/alidadelaw01.NumTogether", spec := "numTogether", apart := false, narrowed := true }
def NumTogetherUptoSaid : Prop := numTogetherUptoRow.holds Try.pinned (OpenSpec.upto numTogetherSpec)

/-- 'alidadelaw01.NumProducts', WHERE WHAT IT READS IS OF BULK AT MOST 1048576: true; the input reads as it did. -/
def numProductsUptoRow : OpenClaim := { program := "ytlkhnhahepehkaa", sum := "a4e18ebd387e2adc5311ee7d7dafab9d4cf44cb3f019d55cb6439a75cb77f2a6", func := "alidade/alidadelaw01.NumProducts", spec := "numProducts", apart := false, narrowed := true }
def NumProductsUptoSaid : Prop := numProductsUptoRow.holds Try.pinned (OpenSpec.upto numProductsSpec)

/-- 'alidadelaw04.BoxMeets', WHERE WHAT IT READS IS OF BULK AT MOST 1048576: true; the input reads as it did. -/
def boxMeetsUptoRow : OpenClaim := { program := "ytlkhnhahepehkaa", sum := "a4e18ebd387e2adc5311ee7d7dafab9d4cf44cb3f019d55cb6439a75cb77f2a6", func := "alidade/alidadelaw04.BoxMeets", spec := "boxMeets", unfollowed := true, recurses := true, apart := false, narrowed := true }
def BoxMeetsUptoSaid : Prop := boxMeetsUptoRow.holds Try.pinned (OpenSpec.upto boxMeetsSpec)

/-- 'alidadelaw04.BoxSpans', WHERE WHAT IT READS IS OF BULK AT MOST 1048576: true; the input reads as it did. -/
def boxSpansUptoRow : OpenClaim := { program := "ytlkhnhahepehkaa", sum := "a4e18ebd387e2adc5311ee7d7dafab9d4cf44cb3f019d55cb6439a75cb77f2a6", func := "alidade/alidadelaw04.BoxSpans", spec := "boxSpans", unfollowed := true, recurses := true, apart := false, narrowed := true }
def BoxSpansUptoSaid : Prop := boxSpansUptoRow.holds Try.pinned (OpenSpec.upto boxSpansSpec)

/-- 'alidadelaw04.BoxChecks', WHERE WHAT IT READS IS OF BULK AT MOST 1048576: true; the input reads as it did. -/
def boxChecksUptoRow : OpenClaim := { program := "ytlkhnhahepehkaa", sum := "a4e18ebd387e2adc5311ee7d7dafab9d4cf44cb3f019d55cb6439a75cb77f2a6", func := "alidade/alidadelaw04.BoxChecks", spec := "boxChecks", unfollowed := true, recurses := true, apart := false, narrowed := true }
def BoxChecksUptoSaid : Prop := boxChecksUptoRow.holds Try.pinned (OpenSpec.upto boxChecksSpec)

/-- 'alidadelaw04.BoxAround', WHERE WHAT IT READS IS OF BULK AT MOST 1048576: true; the input reads as it did. -/
def boxAroundUptoRow : OpenClaim := { program := "ytlkhnhahepehkaa", sum := "a4e18ebd387e2adc5311ee7d7dafab9d4cf44cb3f019d55cb6439a75cb77f2a6", func := "alidade/alidadelaw04.BoxAround", spec := "boxAround", unfollowed := true, recurses := true, apart := false, narrowed := true }
def BoxAroundUptoSaid : Prop := boxAroundUptoRow.holds Try.pinned (OpenSpec.upto boxAroundSpec)

end Rows
end Go.Proofs.Ytlkhnhahepehkaa
