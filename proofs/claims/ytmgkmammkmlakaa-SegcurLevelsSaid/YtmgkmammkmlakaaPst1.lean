/- Trees that are heaps by Y: what lies in memory, and the small functions. -/
import Derived.Test.YtmgkmammkmlakaaSrt
import Derived.Test.YtmgkmammkmlakaaPb
namespace Go.Proofs.Ytmgkmammkmlakaa
attribute [local irreducible] sat
set_option linter.unusedVariables false
set_option linter.unusedSimpArgs false
set_option maxRecDepth 100000

def goodId (n : Int) : Bool := decide (1 ≤ n) && decide (n ≤ 2147483647)
def goodP (p : Pt) : Bool := goodId p.id && (good p.x && good p.y)
theorem kid_id_ctr (n : Int) (L : List HP) : Ctr Try.prog 25 #[.int .i64 n] L fun v L' => v = .bool (goodId n) ∧ L' = L := by
  refine Ctr_of (fn := Try.f25) (n := 9) Try.func25 rfl rfl rfl ?_
  intro g F
  (repeat first | refine G_seq ?_ | refine G_skip ?_ | refine G_endblk ?_ | refine G_block ?_ | refine G_exit rfl ?_)
  refine G_region ?_
  refine GO_q rfl rfl (ev_assign rfl) ?_
  refine GO_nil ?_
  (repeat first | refine G_seq ?_ | refine G_skip ?_ | refine G_endblk ?_ | refine G_block ?_ | refine G_exit rfl ?_)
  refine G_region ?_
  refine GO_q rfl rfl (ev_move rfl) ?_
  refine GO_q rfl rfl (ev_geq rfl rfl) ?_
  refine GO_q rfl rfl (ev_move rfl) ?_
  refine GO_guard rfl rfl rfl (fun hc7 => ?y7) (fun hc7 => ?n7)
  case' n7 =>
    have hd7 := hc7
    try simp only [decide_eq_true_eq, decide_eq_false_iff_not, Bool.not_true, Bool.not_false, Bool.not_eq_true', Bool.not_eq_false'] at hd7
    refine GO_no rfl rfl rfl hc7 ?_
    refine GO_q rfl rfl (ev_pick_f rfl hc7 rfl) ?_
    refine GO_q rfl rfl (ev_assign rfl) ?_
    refine GO_nil ?_
    (repeat first | refine G_seq ?_ | refine G_skip ?_ | refine G_endblk ?_ | refine G_block ?_ | refine G_exit rfl ?_)
    refine G_ret rfl (.tmp rfl .nil) (by (repeat first | exact fun _ s => s | apply en_keep | apply en_drop | apply en_app) <;> fail) ⟨by simp_all [retv, goodId] <;> (intros; omega), rfl⟩
  case' y7 =>
    have hd7 := hc7
    try simp only [decide_eq_true_eq, decide_eq_false_iff_not, Bool.not_true, Bool.not_false, Bool.not_eq_true', Bool.not_eq_false'] at hd7
    refine GO_q rfl rfl (ev_move rfl) ?_
    refine GO_yes rfl rfl rfl hc7 ?_
    refine GO_q rfl rfl (ev_leq rfl rfl) ?_
    refine GO_q rfl rfl (ev_pick_t rfl hc7 rfl) ?_
    refine GO_q rfl rfl (ev_assign rfl) ?_
    refine GO_nil ?_
    (repeat first | refine G_seq ?_ | refine G_skip ?_ | refine G_endblk ?_ | refine G_block ?_ | refine G_exit rfl ?_)
    refine G_ret rfl (.tmp rfl .nil) (by (repeat first | exact fun _ s => s | apply en_keep | apply en_drop | apply en_app) <;> fail) ⟨by simp_all [retv, goodId] <;> (intros; omega), rfl⟩
/-- Whether a point comes ahead of another one by Y. -/
def und (p q : Pt) : Bool := decide (up p q < 0)
/-- A tree. -/
inductive PT where
  | nil
  | node (p s : Pt) (lo hi : PT)
def PT.size : PT → Nat
  | .nil => 0
  | .node _ _ lo hi => lo.size + 1 + hi.size
/-- A node's cells. -/
@[reducible] def nodeC (p s : Pt) (l h : Option Addr) (n : Nat) : List Value := [.int .i64 p.id, .int .i64 p.x, .int .i64 p.y, .int .i64 s.id, .int .i64 s.x, .int .i64 s.y, .pointer l, .pointer h, .int .i64 (n : Nat)]
theorem PT.size_nil : PT.nil.size = 0 := rfl
theorem PT.size_node (p s : Pt) (lo hi : PT) : (PT.node p s lo hi).size = lo.size + 1 + hi.size := rfl
end Go.Proofs.Ytmgkmammkmlakaa
