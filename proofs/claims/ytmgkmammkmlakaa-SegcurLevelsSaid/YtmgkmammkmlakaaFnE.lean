/- A function against nil. No program stands in this text. -/
import Derived.Test.YtmgkmammkmlakaaSl
namespace Go.Proofs.Ytmgkmammkmlakaa
open Go.RowKit
section
variable {P : Program} {g : Glob} {L M : List HP} {σ : Env} {d : Option Nat} {ty T T' : TypeId} {pos : String} {aft : Array Edge} {gd : Option (Nat × Bool)} {x y : Operand} {v : Value}
def funcB (P : Program) (T : TypeId) : Bool := match P.underlying T with
  | some (.func ..) => true
  | _ => false
theorem funcB_spec (h : funcB P T = true) : ∃ a b c, P.underlying T = some (.func a b c) := by
  unfold funcB at h
  split at h
  · rename_i a b c e; exact ⟨a, b, c, e⟩
  · cases h
theorem eqGuard_fn (op : BinOp) (u v : Value) (hu : u = .nilFunc ∨ ∃ f a b, u = .func f a b) (hv : v = .nilFunc) (w : World) : (eqGuard op T x y u v).run P w = .ok () w := by
  subst hv
  rcases hu with rfl | ⟨f, a, b, rfl⟩ <;> (unfold eqGuard; split <;> rfl)
theorem equal_fn1 (H : funcB P T = true) (w : World) : (Op.equal T .nilFunc .nilFunc).run P w = .ok true w := by
  obtain ⟨a, b, c, he⟩ := funcB_spec H
  unfold Op.equal
  rw [show Op.maxDepth = 9999 + 1 from rfl]
  unfold Op.equalIn
  simp only [Sem.run_bind, run_underlying he, Result.andThen_ok] <;> rfl
theorem equal_fn0 (H : funcB P T = true) (f : Fn) (a b : Array Value) (w : World) : (Op.equal T (.func f a b) .nilFunc).run P w = .ok false w := by
  obtain ⟨_, _, _, he⟩ := funcB_spec H
  unfold Op.equal
  rw [show Op.maxDepth = 9999 + 1 from rfl]
  unfold Op.equalIn
  simp only [Sem.run_bind, run_underlying he, Result.andThen_ok] <;> rfl
theorem ev_eqlFn1 (H : funcB P T = true) (hx : ev σ x = some .nilFunc) (hy : ev σ y = some .nilFunc) : Ev P L σ ⟨d, .binOp .eql T x y T', ty, pos, aft, gd⟩ (.bool true) :=
  bin_run' _ _ _ _ (eqGuard_fn _ _ _ (.inl rfl) rfl) hx hy fun w => by
    show ((do pure (.bool (← Op.equal T .nilFunc .nilFunc)) : Sem Value)).run P w = _
    simp only [Sem.run_bind, equal_fn1 H, Result.andThen_ok, Sem.run_pure]
theorem ev_eqlFn0 (H : funcB P T = true) {f : Fn} {a b : Array Value} (hx : ev σ x = some (.func f a b)) (hy : ev σ y = some .nilFunc) : Ev P L σ ⟨d, .binOp .eql T x y T', ty, pos, aft, gd⟩ (.bool false) :=
  bin_run' _ _ _ _ (eqGuard_fn _ _ _ (.inr ⟨f, a, b, rfl⟩) rfl) hx hy fun w => by
    show ((do pure (.bool (← Op.equal T (.func f a b) .nilFunc)) : Sem Value)).run P w = _
    simp only [Sem.run_bind, equal_fn0 H, Result.andThen_ok, Sem.run_pure]
end
end Go.Proofs.Ytmgkmammkmlakaa
