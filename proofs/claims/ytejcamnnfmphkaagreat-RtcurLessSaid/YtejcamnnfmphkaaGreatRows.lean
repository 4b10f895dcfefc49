/-
  No cell of these rows narrows 'for every input' (looked for: loops, veiled, ifaces, maps, wideKeys, modest, calm, conditions, laid).
  DERIVED. THE GIVEN ROWS OF THIS SEAT. 2 by the template 'for every input the law returns true; each argument reads behind the call as it read before'; 0 by the template 'total and deterministic' (their statements: YtejcamnnfmphkaaGreatTotals.lean).
  GIVEN WITH THE SEED: the statements are not yours to turn. If you find one false, say at which input.
  Laid BY PROGRAM, IN A SANDBOX (cutbox-rows.mjs): the forced cells as the released guide's own fill.sh prints them over the translation 93cfec2af80d5ae1… (all of the seat's roots in one cut). By AI agents, Wed Nov 11 2026. No macro, syntax, notation, axiom, sorry.
-/
import Derived.Test.YtejcamnnfmphkaaGreatChecked
import GoSem.Claim
import GoSem.ClaimJoined
import GoSem.ClaimMapViews
import Derived.JoinedTies
import Derived.KernelRfl
namespace Go.Proofs.YtejcamnnfmphkaaGreat
/- THE CELL 'sum', in the pinned program and in every row, IS THE sha256 OF THE DUMP (.gsa) THAT YtejcamnnfmphkaaGreatProg.lean LOADS. Nothing in Lean hashes anything: it is a label: what it is worth is what the hold of that sum in a sandbox is worth. -/
noncomputable def Tryz.pinned : Pinned := { name := "ytejcamnnfmphkaagreat", sum := "93cfec2af80d5ae1b522a560a78da1fba241d89879a473fb1701df5f211d0554", checked := Tryz.checked }
namespace Rows
def none {H : Type} : Left H := { results := [], args := [] }

/-- 'alidadelaw18.RtcurFinds': WHATEVER THE INPUT: true; the input reads as it did. -/
def rtcurFindsSpec : ChangeSpec := { name := "rtcurFinds", fn := fun _ => fun
  | [d1, d2, d3] => { results := [.lit (.bool true)], args := [d1, d2, d3] }
  | _ => none }
def rtcurFindsRow : OpenClaim := { program := "ytejcamnnfmphkaagreat", sum := "93cfec2af80d5ae1b522a560a78da1fba241d89879a473fb1701df5f211d0554", func := "alidade/alidadelaw18.RtcurFinds", spec := "rtcurFinds", unfollowed := true, recurses := true, apart := false }
def RtcurFindsSaid : Prop := rtcurFindsRow.holds Tryz.pinned (OpenSpec.ofChange rtcurFindsSpec)

/-- ITS FALSE NEIGHBOUR: 'it returns false'. Refute it at one input. -/
def rtcurFindsWrong : ChangeSpec := { name := "rtcurFinds", fn := fun _ => fun
  | [d1, d2, d3] => { results := [.lit (.bool false)], args := [d1, d2, d3] }
  | _ => none }
def RtcurFindsWrongFalsely : Prop := rtcurFindsRow.holds Tryz.pinned (OpenSpec.ofChange rtcurFindsWrong)

/-- 'alidadelaw18.RtcurLess': WHATEVER THE INPUT: true; the input reads as it did. -/
def rtcurLessSpec : ChangeSpec := { name := "rtcurLess", fn := fun _ => fun
  | [d1, d2, d3] => { results := [.lit (.bool true)], args := [d1, d2, d3] }
  | _ => none }
def rtcurLessRow : OpenClaim := { program := "ytejcamnnfmphkaagreat", sum := "93cfec2af80d5ae1b522a560a78da1fba241d89879a473fb1701df5f211d0554", func := "alidade/alidadelaw18.RtcurLess", spec := "rtcurLess", unfollowed := true, recurses := true, apart := false }
def RtcurLessSaid : Prop := rtcurLessRow.holds Tryz.pinned (OpenSpec.ofChange rtcurLessSpec)

/-- ITS FALSE NEIGHBOUR: 'it returns false'. Refute it at one input. -/
def rtcurLessWrong : ChangeSpec := { name := "rtcurLess", fn := fun _ => fun
  | [d1, d2, d3] => { results := [.lit (.bool false)], args := [d1, d2, d3] }
  | _ => none }
def RtcurLessWrongFalsely : Prop := rtcurLessRow.holds Tryz.pinned (OpenSpec.ofChange rtcurLessWrong)

/- THE SECOND FORM. 'bulk': how many values and letters a reading holds, each counted each time it is reached (what is shared counts as often as it is met; a slice's spare places count too). A statement '..UptoSaid' is the law's where the arguments, and the package variables that the reading takes, are together of bulk at most 1048576: NARROWER than '..Said'. Prove '..Said' where nothing that the law and all that it calls make is longer than what came in: it says more and counts as full. Else prove '..UptoSaid'. A law counts once. -/
mutual
def uptoBulk {H : Type} : DataW H → Nat
  | .lit (.string bytes) => bytes.length + 1
  | .lit _ => 1
  | .nil => 1
  | .ptr d => uptoBulk d + 1
  | .slice elems spare => uptoBulkAll elems + uptoBulkAll spare + 1
  | .agg parts => uptoBulkAll parts + 1
  | .iface _ d => uptoBulk d + 1
  | .map entries => uptoBulkEntries entries + 1
  | .held _ => 1
def uptoBulkAll {H : Type} : List (DataW H) → Nat
  | [] => 0
  | d :: r => uptoBulk d + uptoBulkAll r
def uptoBulkEntries {H : Type} : List (Lit × DataW H) → Nat
  | [] => 0
  | x :: r => uptoBulkEntry x + uptoBulkEntries r
def uptoBulkEntry {H : Type} : Lit × DataW H → Nat
  | (.string bytes, d) => bytes.length + uptoBulk d + 1
  | (_, d) => uptoBulk d + 1
 end
def uptoSmall : (H : Type) → List (DataW H) → Bool := fun _ ds => decide (uptoBulkAll ds ≤ 1048576)
def OpenSpec.upto (s : _root_.Go.ChangeSpec) : _root_.Go.OpenSpec := { _root_.Go.OpenSpec.ofChange s with cond := some uptoSmall }

/-- 'alidadelaw18.RtcurFinds', WHERE WHAT IT READS IS OF BULK AT MOST 1048576: true; the input reads as it did. -/
def rtcurFindsUptoRow : OpenClaim := { program := "ytejcamnnfmphkaagreat", sum := "93cfec2af80d5ae1b522a560a78da1fba241d89879a473fb1701df5f211d0554", func := "alidade/alidadelaw18.RtcurFinds", spec := "rtcurFinds", unfollowed := true, recurses := true, apart := false, narrowed := true }
def RtcurFindsUptoSaid : Prop := rtcurFindsUptoRow.holds Tryz.pinned (OpenSpec.upto rtcurFindsSpec)

/-- 'alidadelaw18.RtcurLess', WHERE WHAT IT READS IS OF BULK AT MOST 1048576: true; the input reads as it did. -/
def rtcurLessUptoRow : OpenClaim := { program := "ytejcamnnfmphkaagreat", sum := "93cfec2af80d5ae1b522a560a78da1fba241d89879a473fb1701df5f211d0554", func := "alidade/alidadelaw18.RtcurLess", spec := "rtcurLess", unfollowed := true, recurses := true, apart := false, narrowed := true }
def RtcurLessUptoSaid : Prop := rtcurLessUptoRow.holds Tryz.pinned (OpenSpec.upto rtcurLessSpec)

end Rows
end Go.Proofs.YtejcamnnfmphkaaGreat
