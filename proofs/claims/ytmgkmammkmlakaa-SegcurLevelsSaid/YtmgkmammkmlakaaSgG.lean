/- What is done to a tree of cells and to the references' set; that a tree lives. -/
import Derived.Test.YtmgkmammkmlakaaSgF
namespace Go.Proofs.Ytmgkmammkmlakaa
set_option linter.unusedVariables false
set_option linter.unusedSimpArgs false
set_option maxRecDepth 100000

/-- What is done: its two numbers and the interval. -/
structure Ac where
  kind : Int
  at_ : Int
  p : Pt
/-- The point of an act. -/
def actP (l : List Pt) (a : Ac) : Pt := if a.kind = 2 ∧ 0 < l.length ∧ 0 ≤ a.at_ then l.getD (a.at_ % (l.length : Nat)).toNat a.p else a.p
section
variable {P : Program} {L : List HP} {σ : Env} {d : Option Nat} {ty T T' : TypeId} {pos : String} {aft : Array Edge} {gd : Option (Nat × Bool)} {x y : Operand}
theorem ev_remE {p q : Int} {j : Nat} (e : p % q = (j : Int)) (hx : ev σ x = some (.int .i64 p)) (hy : ev σ y = some (.int .i64 q)) (hp : 0 ≤ p) (hq : 0 < q) : Ev P L σ ⟨d, .binOp .rem T x y T', ty, pos, aft, gd⟩ (.int .i64 (j : Int)) := e ▸ ev_rem hx hy hp hq
end
instance : Enc Ac := ⟨5, fun a => [.int .i64 a.kind, .int .i64 a.at_, .int .i64 a.p.id, .int .i64 a.p.x, .int .i64 a.p.y], fun _ => rfl, fun p v h => by
  simp at h
  rcases h with rfl | rfl | rfl | rfl | rfl <;> rfl⟩
def St.act (most : Int) (s : St) (a : Ac) : St := if a.kind = 1 ∨ a.kind = 2 then s.del (actP s.k a) else s.ins most (actP s.k a)
def St.play (most : Int) (l : List Ac) : St := l.foldl (St.act most) ⟨[], [], 0⟩
theorem St.play_succ (most : Int) (l : List Ac) (k : Nat) (h : k < l.length) : St.play most (l.take (k + 1)) = St.act most (St.play most (l.take k)) l[k] := by
  unfold St.play; rw [List.take_succ_eq_append_getElem h, List.foldl_append]; rfl
theorem St.ins_len (s : St) (most : Int) (p : Pt) : (s.ins most p).k.length ≤ s.k.length + 1 ∧ (s.ins most p).R.length ≤ s.R.length + 2 ∧ (s.ins most p).b ≤ s.b + 1 := by
  unfold St.ins
  split
  · refine ⟨by simp, ?_, ?_⟩
    · unfold insR
      simp only
      split
      · omega
      · have := ofL_length (s.R ++ [p.x, p.y]); rw [List.length_append] at this; simp only [List.length_cons, List.length_nil] at this; omega
    · unfold insB; simp only; split <;> omega
  · omega
theorem St.del_len (s : St) (p : Pt) : (s.del p).k.length ≤ s.k.length ∧ ((s.del p).R.length ≤ s.R.length) ∧ (s.del p).b ≤ s.b + 1 := by
  have h0 : (s.k.erase p).length ≤ s.k.length := List.length_erase_le
  unfold St.del
  split
  · refine ⟨h0, ?_, ?_⟩
    · unfold delR
      simp only
      split
      · have := ofL_length (endsOf (s.k.erase p)); rw [endsOf_length] at this; omega
      · omega
    · unfold delB; simp only; split <;> omega
  · omega
theorem St.act_len (s : St) (most : Int) (a : Ac) : (s.act most a).k.length ≤ s.k.length + 1 ∧ (s.act most a).R.length ≤ s.R.length + 2 ∧ (s.act most a).b ≤ s.b + 1 := by
  unfold St.act
  split
  · have := s.del_len (actP s.k a); omega
  · exact s.ins_len most _
section
variable (t b : Nat) (most : Int) (s : St) (L : List HP)
end
end Go.Proofs.Ytmgkmammkmlakaa
