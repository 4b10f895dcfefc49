/- Further rules by operation: numbers of other kinds, parts of arrays. No program stands in this text. -/
import Derived.Test.YtmgkmammkmlakaaOps
import Derived.Test.YtmgkmammkmlakaaEnd
import Derived.IntWalk
import Derived.OpenShut
import Derived.Laws.Entries
namespace Go.Proofs.Ytmgkmammkmlakaa
open Go.RowKit
set_option linter.unusedSimpArgs false
set_option linter.unusedSectionVars false
class IntK (P : Program) (T : TypeId) (k : outParam IntKind) : Prop where
  h : P.underlying T = some (.int k)
section
variable {P : Program} {L : List HP} {σ : Env} {d : Option Nat} {ty T T' : TypeId} {pos : String} {aft : Array Edge} {gd : Option (Nat × Bool)} {x y z : Operand} {v u : Value}
theorem ev_remK {k : IntKind} {p q : Nat} (hx : ev σ x = some (.int k (p : Int))) (hy : ev σ y = some (.int k (q : Int))) (hq : 0 < q) : Ev P L σ ⟨d, .binOp .rem T x y T', ty, pos, aft, gd⟩ (.int k ((p % q : Nat) : Int)) :=
  bin_run _ _ p q _ hx hy fun w => by
    have e : ((p : Int)).tmod (q : Int) = ((p % q : Nat) : Int) := by rw [Int.tmod_eq_emod_of_nonneg (by omega)]; rfl
    simp [binOp, Op.intDiv, show q ≠ 0 by omega, e]
theorem ev_convU {k : IntKind} {p : Nat} [H : IntK P T k] [H' : IntK P T' .i64] (hx : ev σ x = some (.int k (p : Int))) (hp : p ≤ 9223372036854775807) : Ev P L σ ⟨d, .convert T T' x, ty, pos, aft, gd⟩ (.int .i64 (p : Int)) := fun a w hs _ => by
  simp only [execOp, hs.eval hx]
  have ek : P.intKind T' = .i64 := by unfold Program.intKind; rw [H'.h]
  have e := run_convert_int (P := P) w T T' k (p : Int) (by rw [H.h]; rfl) (by rw [ek]; exact H'.h)
  have e2 : IntKind.wrap .i64 (p : Int) = p := IntWalk.i64_in _ (by omega)
  rw [ek, e2] at e
  simp only [Sem.run_bind, e, Result.andThen_ok, Sem.run_pure]
theorem ev_indexA {k : IntKind} {n sz i : Nat} {e : TypeId} {cs : List Value} [H : ArrT P T (n, e, sz)] [H1 : OneT P e] (hx : ev σ x = some (.agg cs.toArray)) (hy : ev σ y = some (.int k (i : Int))) (hi : i < n) (hv : cs[i * sz]? = some v) : Ev P L σ ⟨d, .index T x y, ty, pos, aft, gd⟩ v := fun a w hs _ => by
  obtain ⟨hu, ii, hie, hsz⟩ := H.spec
  simp only [execOp, hs.eval hx, hs.eval hy]
  have h9 : cs.toArray[i * sz]? = some v := by simpa using hv
  simp [Instr.index, run_underlying hu, asIntOf, hi, sizeOf, typeInfo, hie, hsz, part, (H1.run w).1, hv]
end
theorem bounds_u8 {n : Int} (h : (Lit.int .u8 n).wf = true) : ∃ m : Nat, n = m ∧ m ≤ 255 := by
  simp [Lit.wf, IntKind.min, IntKind.max, IntKind.signed, IntKind.bits] at h
  exact ⟨n.toNat, by omega, by omega⟩
end Go.Proofs.Ytmgkmammkmlakaa
