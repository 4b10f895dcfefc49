/- Rules by operation. No program stands in this text. -/
import Derived.Test.YtmgkmammkmlakaaLog
import Derived.IntWalk
namespace Go.Proofs.Ytmgkmammkmlakaa
open Go.RowKit
set_option linter.unusedSimpArgs false
set_option linter.unusedSectionVars false

/-! What is asked of types. -/
def oneB (P : Program) (T : TypeId) : Bool :=
  match P.underlying T, P.info? T with
  | some (.struct _), _ => false
  | some (.array _ _), _ => false
  | some _, some i => Nat.beq i.size 1
  | _, _ => false
def aggB (P : Program) (T : TypeId) (n : Nat) : Bool :=
  match P.underlying T, P.info? T with
  | some (.struct _), some i => Nat.beq i.size n
  | some (.array _ _), some i => Nat.beq i.size n
  | _, _ => false
class OneT (P : Program) (T : TypeId) : Prop where
  h : oneB P T = true
class AggT (P : Program) (T : TypeId) (n : outParam Nat) : Prop where
  h : aggB P T n = true
/-- A type's zero value, cell by cell. -/
class ZeroT (P : Program) (T : TypeId) (z : outParam (List Value)) : Prop where
  h : ((P.info? T).bind (·.zero)).map (·.cells.toList) = some z
def fieldsOf (P : Program) (T : TypeId) : Option (List (Nat × Nat)) :=
  match P.underlying T with
  | some (.struct fs) => fs.toList.mapM fun f => (P.info? f.type).map fun i => (f.offset, i.size)
  | _ => none
class StructT (P : Program) (T : TypeId) (fs : outParam (List (Nat × Nat))) : Prop where
  h : fieldsOf P T = some fs
/-- A field: where it lies, how many cells it has, whether it is one of several parts. -/
def fieldOf (P : Program) (T : TypeId) (f : Nat) : Option (Nat × Nat × Bool) :=
  match P.underlying T with
  | some (.struct fs) => match fs[f]? with
    | some fd => if oneB P fd.type then some (fd.offset, 1, false) else (P.info? fd.type).bind fun i => if aggB P fd.type i.size then some (fd.offset, i.size, true) else none
    | none => none
  | _ => none
class FldT (P : Program) (T : TypeId) (f : Nat) (r : outParam (Nat × Nat × Bool)) : Prop where
  h : fieldOf P T f = some r
def sliceOf (P : Program) (T : TypeId) : Option (TypeId × Nat × Nat) :=
  match P.underlying T with
  | some (.slice e) => (P.info? e).map fun i => (e, i.size, i.bytes)
  | _ => none
class SliceT (P : Program) (T : TypeId) (r : outParam (TypeId × Nat × Nat)) : Prop where
  h : sliceOf P T = some r
def arrOf (P : Program) (T : TypeId) : Option (Nat × TypeId × Nat) :=
  match P.underlying T with
  | some (.array n e) => (P.info? e).map fun i => (n, e, i.size)
  | _ => none
class ArrT (P : Program) (T : TypeId) (r : outParam (Nat × TypeId × Nat)) : Prop where
  h : arrOf P T = some r
def calB (P : Program) (f : FuncId) : Bool :=
  match P.funcs[f]? with
  | some fn => fn.body.isSome && !(fn.name == "runtime.NumGoroutine")
  | none => false
class CalT (P : Program) (f : FuncId) : Prop where
  h : calB P f = true

section
variable {P : Program}
theorem OneT.run {T : TypeId} (h : OneT P T) (w : World) : (isAgg T).run P w = .ok false w ∧ (sizeOf T).run P w = .ok 1 w := by
  have h := h.h
  unfold oneB at h
  cases hu : P.underlying T with
  | none => rw [hu] at h; cases h
  | some d =>
    cases hi : P.info? T with
    | none => rw [hu, hi] at h; cases d <;> cases h
    | some i =>
      rw [hu, hi] at h
      have e2 : (sizeOf T).run P w = .ok i.size w := by simp [sizeOf, typeInfo, hi]
      cases d <;> first | (cases h; done) | exact ⟨by simp [isAgg, run_underlying hu], by rw [e2, Nat.eq_of_beq_eq_true h]⟩
theorem AggT.run {T : TypeId} {n : Nat} (h : AggT P T n) (w : World) : (isAgg T).run P w = .ok true w ∧ (sizeOf T).run P w = .ok n w := by
  have h := h.h
  unfold aggB at h
  cases hu : P.underlying T with
  | none => rw [hu] at h; cases h
  | some d =>
    cases hi : P.info? T with
    | none => rw [hu, hi] at h; cases d <;> cases h
    | some i =>
      rw [hu, hi] at h
      have e2 : (sizeOf T).run P w = .ok i.size w := by simp [sizeOf, typeInfo, hi]
      cases d <;> first | (cases h; done) | exact ⟨by simp [isAgg, run_underlying hu], by rw [e2, Nat.eq_of_beq_eq_true h]⟩
theorem ZeroT.run {T : TypeId} {z : List Value} (h : ZeroT P T z) (w : World) : ∃ v, (zeroValue T).run P w = .ok v w ∧ v.cells = z.toArray := by
  have h := h.h
  cases hi : P.info? T with
  | none => rw [hi] at h; cases h
  | some i =>
    cases hz : i.zero with
    | none => rw [hi] at h; simp [hz] at h
    | some v => rw [hi] at h; simp [hz] at h; exact ⟨v, by simp [zeroValue, typeInfo, hi, hz], by rw [← h]⟩
theorem SliceT.spec {T e : TypeId} {s b : Nat} (h : SliceT P T (e, s, b)) : P.underlying T = some (.slice e) ∧ ∃ i, P.info? e = some i ∧ i.size = s ∧ i.bytes = b := by
  have h := h.h
  unfold sliceOf at h
  cases hu : P.underlying T with
  | none => rw [hu] at h; cases h
  | some d =>
    rw [hu] at h
    cases d <;> first | (cases h; done) | skip
    rename_i e'
    cases hi : P.info? e' with
    | none => simp [hi] at h
    | some i => simp [hi] at h; obtain ⟨rfl, h2, h3⟩ := h; exact ⟨rfl, i, hi, h2, h3⟩
theorem ArrT.spec {T e : TypeId} {n s : Nat} (h : ArrT P T (n, e, s)) : P.underlying T = some (.array n e) ∧ ∃ i, P.info? e = some i ∧ i.size = s := by
  have h := h.h
  unfold arrOf at h
  cases hu : P.underlying T with
  | none => rw [hu] at h; cases h
  | some d =>
    rw [hu] at h
    cases d <;> first | (cases h; done) | skip
    rename_i n' e'
    cases hi : P.info? e' with
    | none => simp [hi] at h
    | some i => simp [hi] at h; obtain ⟨rfl, rfl, h3⟩ := h; exact ⟨rfl, i, hi, h3⟩
theorem CalT.run {f : FuncId} (h : CalT P f) (args : Array Value) (w : World) : (callFunc f args).run P w = .ok (.enter f args) w := by
  have h := h.h
  unfold calB at h
  cases hf : P.funcs[f]? with
  | none => rw [hf] at h; cases h
  | some fn =>
    rw [hf] at h
    simp only [Bool.and_eq_true, Bool.not_eq_true'] at h
    obtain ⟨h1, h2⟩ := h
    cases hb : fn.body with
    | none => rw [hb] at h1; cases h1
    | some c => simp [callFunc, hf, by simpa using h2, hb]
end

/-! Quiet ones. -/
section
variable {P : Program} {L : List HP} {σ : Env} {d : Option Nat} {ty T T' : TypeId} {pos : String} {aft : Array Edge} {gd : Option (Nat × Bool)} {x y z : Operand} {v u : Value}
theorem ev_move (h : ev σ x = some v) : Ev P L σ ⟨d, .move x, ty, pos, aft, gd⟩ v := fun a w hs _ => by
  show Result.ok (Next.value (a.eval x)) w = _
  rw [hs.eval h]
theorem ev_assign (h : ev σ x = some v) : Ev P L σ ⟨d, .assign x, ty, pos, aft, gd⟩ v := fun a w hs _ => by
  show Result.ok (Next.value (a.eval x)) w = _
  rw [hs.eval h]
theorem bin_run (op : BinOp) (k : IntKind) (p q : Int) (r : Value) (hx : ev σ x = some (.int k p)) (hy : ev σ y = some (.int k q)) (hr : ∀ w, (binOp op T (.int k p) (.int k q)).run P w = .ok r w) :
    Ev P L σ ⟨d, .binOp op T x y T', ty, pos, aft, gd⟩ r := fun a w hs _ => by
  simp only [execOp, hs.eval hx, hs.eval hy]
  have e : (eqGuard op T x y (.int k p) (.int k q)).run P w = .ok () w := by
    unfold eqGuard
    split <;> rfl
  simp only [Sem.run_bind, e, Result.andThen_ok, hr, Sem.run_pure]
theorem ev_add {p q : Int} (hx : ev σ x = some (.int .i64 p)) (hy : ev σ y = some (.int .i64 q)) (hr : -9223372036854775808 ≤ p + q ∧ p + q ≤ 9223372036854775807) : Ev P L σ ⟨d, .binOp .add T x y T', ty, pos, aft, gd⟩ (.int .i64 (p + q)) :=
  bin_run _ _ p q _ hx hy fun w => by simp [binOp, Op.intArith, IntWalk.i64_in _ hr]
theorem ev_sub {p q : Int} (hx : ev σ x = some (.int .i64 p)) (hy : ev σ y = some (.int .i64 q)) (hr : -9223372036854775808 ≤ p - q ∧ p - q ≤ 9223372036854775807) : Ev P L σ ⟨d, .binOp .sub T x y T', ty, pos, aft, gd⟩ (.int .i64 (p - q)) :=
  bin_run _ _ p q _ hx hy fun w => by simp [binOp, Op.intArith, IntWalk.i64_in _ hr]
theorem ev_mul {p q : Int} (hx : ev σ x = some (.int .i64 p)) (hy : ev σ y = some (.int .i64 q)) (hr : -9223372036854775808 ≤ p * q ∧ p * q ≤ 9223372036854775807) : Ev P L σ ⟨d, .binOp .mul T x y T', ty, pos, aft, gd⟩ (.int .i64 (p * q)) :=
  bin_run _ _ p q _ hx hy fun w => by simp [binOp, Op.intArith, IntWalk.i64_in _ hr]
theorem ev_addN {p q : Nat} (hx : ev σ x = some (.int .i64 (p : Int))) (hy : ev σ y = some (.int .i64 (q : Int))) (hr : p + q ≤ 9223372036854775807) : Ev P L σ ⟨d, .binOp .add T x y T', ty, pos, aft, gd⟩ (.int .i64 ((p + q : Nat) : Int)) := by
  rw [Int.natCast_add]; exact ev_add hx hy (by omega)
theorem ev_subN {p q : Nat} (hx : ev σ x = some (.int .i64 (p : Int))) (hy : ev σ y = some (.int .i64 (q : Int))) (hr : q ≤ p ∧ p ≤ 9223372036854775807) : Ev P L σ ⟨d, .binOp .sub T x y T', ty, pos, aft, gd⟩ (.int .i64 ((p - q : Nat) : Int)) := by
  rw [Int.natCast_sub hr.1]; exact ev_sub hx hy (by omega)
/-- Parts of a number that is not below 0. -/
theorem ev_quo {p q : Int} (hx : ev σ x = some (.int .i64 p)) (hy : ev σ y = some (.int .i64 q)) (hp : 0 ≤ p) (hq : 0 < q) (hm : p ≤ 9223372036854775807) : Ev P L σ ⟨d, .binOp .quo T x y T', ty, pos, aft, gd⟩ (.int .i64 (p / q)) :=
  bin_run _ _ p q _ hx hy fun w => by
    have h1 : p.tdiv q = p / q := Int.tdiv_eq_ediv_of_nonneg hp
    have h2 : 0 ≤ p / q := Int.ediv_nonneg hp (Int.le_of_lt hq)
    have h3 : p / q ≤ p := Int.ediv_le_self q hp
    simp [binOp, Op.intDiv, show q ≠ 0 by omega, h1, IntWalk.i64_in (p / q) (by omega)]
theorem ev_quoN {p q : Nat} (hx : ev σ x = some (.int .i64 (p : Int))) (hy : ev σ y = some (.int .i64 (q : Int))) (hq : 0 < q) (hm : p ≤ 9223372036854775807) : Ev P L σ ⟨d, .binOp .quo T x y T', ty, pos, aft, gd⟩ (.int .i64 ((p / q : Nat) : Int)) := by
  rw [Int.natCast_ediv]; exact ev_quo hx hy (by omega) (by omega) (by omega)
theorem ev_rem {p q : Int} (hx : ev σ x = some (.int .i64 p)) (hy : ev σ y = some (.int .i64 q)) (hp : 0 ≤ p) (hq : 0 < q) : Ev P L σ ⟨d, .binOp .rem T x y T', ty, pos, aft, gd⟩ (.int .i64 (p % q)) :=
  bin_run _ _ p q _ hx hy fun w => by
    simp [binOp, Op.intDiv, show q ≠ 0 by omega, Int.tmod_eq_emod_of_nonneg hp]
theorem ev_lssN {k : IntKind} {p q : Nat} (hx : ev σ x = some (.int k (p : Int))) (hy : ev σ y = some (.int k (q : Int))) : Ev P L σ ⟨d, .binOp .lss T x y T', ty, pos, aft, gd⟩ (.bool (decide (p < q))) :=
  bin_run _ _ p q _ hx hy fun w => by simp [binOp, Op.intCmp]
theorem ev_lss {k : IntKind} {p q : Int} (hx : ev σ x = some (.int k p)) (hy : ev σ y = some (.int k q)) : Ev P L σ ⟨d, .binOp .lss T x y T', ty, pos, aft, gd⟩ (.bool (decide (p < q))) :=
  bin_run _ _ p q _ hx hy fun w => by simp [binOp, Op.intCmp]
theorem ev_leq {k : IntKind} {p q : Int} (hx : ev σ x = some (.int k p)) (hy : ev σ y = some (.int k q)) : Ev P L σ ⟨d, .binOp .leq T x y T', ty, pos, aft, gd⟩ (.bool (decide (p ≤ q))) :=
  bin_run _ _ p q _ hx hy fun w => by simp [binOp, Op.intCmp]
theorem ev_gtr {k : IntKind} {p q : Int} (hx : ev σ x = some (.int k p)) (hy : ev σ y = some (.int k q)) : Ev P L σ ⟨d, .binOp .gtr T x y T', ty, pos, aft, gd⟩ (.bool (decide (q < p))) :=
  bin_run _ _ p q _ hx hy fun w => by simp [binOp, Op.intCmp]
theorem ev_geq {k : IntKind} {p q : Int} (hx : ev σ x = some (.int k p)) (hy : ev σ y = some (.int k q)) : Ev P L σ ⟨d, .binOp .geq T x y T', ty, pos, aft, gd⟩ (.bool (decide (q ≤ p))) :=
  bin_run _ _ p q _ hx hy fun w => by simp [binOp, Op.intCmp]
theorem ev_eql {k : IntKind} {p q : Int} (hx : ev σ x = some (.int k p)) (hy : ev σ y = some (.int k q)) : Ev P L σ ⟨d, .binOp .eql T x y T', ty, pos, aft, gd⟩ (.bool (decide (p = q))) :=
  bin_run _ _ p q _ hx hy fun w => by
    have : (p == q) = decide (p = q) := by by_cases h : p = q <;> simp [h]
    simp [binOp, Op.intCmp, this]
theorem ev_neq {k : IntKind} {p q : Int} (hx : ev σ x = some (.int k p)) (hy : ev σ y = some (.int k q)) : Ev P L σ ⟨d, .binOp .neq T x y T', ty, pos, aft, gd⟩ (.bool (decide (p ≠ q))) :=
  bin_run _ _ p q _ hx hy fun w => by
    have : (p != q) = decide (p ≠ q) := by by_cases h : p = q <;> simp [h]
    simp [binOp, Op.intCmp, this]
theorem bin_run' (op : BinOp) (u v r : Value) (hg : ∀ w, (eqGuard op T x y u v).run P w = .ok () w) (hx : ev σ x = some u) (hy : ev σ y = some v) (hr : ∀ w, (binOp op T u v).run P w = .ok r w) :
    Ev P L σ ⟨d, .binOp op T x y T', ty, pos, aft, gd⟩ r := fun a w hs _ => by
  simp only [execOp, hs.eval hx, hs.eval hy]
  simp only [Sem.run_bind, hg, Result.andThen_ok, hr, Sem.run_pure]
theorem eqGuard_ptr (op : BinOp) (p q : Option Addr) (w : World) : (eqGuard op T x y (.pointer p) (.pointer q)).run P w = .ok () w := by
  unfold eqGuard
  split <;> rfl
def ptrB (P : Program) (T : TypeId) : Bool := match P.underlying T with
  | some (.pointer _) => true
  | _ => false
class PtrT (P : Program) (T : TypeId) : Prop where
  h : ptrB P T = true
theorem PtrT.spec (H : PtrT P T) : ∃ e, P.underlying T = some (.pointer e) := by
  have h := H.h
  unfold ptrB at h
  split at h
  · exact ⟨_, by assumption⟩
  · cases h
theorem equal_nil (H : PtrT P T) (p : Option Addr) (w : World) : (Op.equal T (.pointer p) (.pointer none)).run P w = .ok p.isNone w := by
  obtain ⟨e, he⟩ := H.spec
  unfold Op.equal
  rw [show Op.maxDepth = 9999 + 1 from rfl]
  unfold Op.equalIn
  cases p <;> simp only [Sem.run_bind, run_underlying he, Result.andThen_ok] <;> rfl
theorem ev_eqlNil {p : Option Addr} [H : PtrT P T] (hx : ev σ x = some (.pointer p)) (hy : ev σ y = some (.pointer none)) : Ev P L σ ⟨d, .binOp .eql T x y T', ty, pos, aft, gd⟩ (.bool p.isNone) :=
  bin_run' _ _ _ _ (eqGuard_ptr _ _ _) hx hy fun w => by
    show ((do pure (.bool (← Op.equal T (.pointer p) (.pointer none))) : Sem Value)).run P w = _
    simp only [Sem.run_bind, equal_nil H, Result.andThen_ok, Sem.run_pure]
theorem ev_neqNil {p : Option Addr} [H : PtrT P T] (hx : ev σ x = some (.pointer p)) (hy : ev σ y = some (.pointer none)) : Ev P L σ ⟨d, .binOp .neq T x y T', ty, pos, aft, gd⟩ (.bool p.isSome) :=
  bin_run' _ _ _ _ (eqGuard_ptr _ _ _) hx hy fun w => by
    show ((do pure (.bool (!(← Op.equal T (.pointer p) (.pointer none)))) : Sem Value)).run P w = _
    simp only [Sem.run_bind, equal_nil H, Result.andThen_ok, Sem.run_pure]
    cases p <;> rfl
theorem eqGuard_bool (op : BinOp) (p q : Bool) (w : World) : (eqGuard op T x y (.bool p) (.bool q)).run P w = .ok () w := by
  unfold eqGuard
  split <;> rfl
def boolB (P : Program) (T : TypeId) : Bool := match P.underlying T with
  | some .bool => true
  | _ => false
class BoolT (P : Program) (T : TypeId) : Prop where
  h : boolB P T = true
theorem BoolT.spec (H : BoolT P T) : P.underlying T = some .bool := by
  have h := H.h
  unfold boolB at h
  split at h
  · assumption
  · cases h
theorem equal_bool (H : BoolT P T) (p q : Bool) (w : World) : (Op.equal T (.bool p) (.bool q)).run P w = .ok (p == q) w := by
  have he := H.spec
  unfold Op.equal
  rw [show Op.maxDepth = 9999 + 1 from rfl]
  unfold Op.equalIn
  simp only [Sem.run_bind, run_underlying he, Result.andThen_ok] <;> rfl
theorem ev_eqlB {p q : Bool} [H : BoolT P T] (hx : ev σ x = some (.bool p)) (hy : ev σ y = some (.bool q)) : Ev P L σ ⟨d, .binOp .eql T x y T', ty, pos, aft, gd⟩ (.bool (p == q)) :=
  bin_run' _ _ _ _ (eqGuard_bool _ _ _) hx hy fun w => by
    show ((do pure (.bool (← Op.equal T (.bool p) (.bool q))) : Sem Value)).run P w = _
    simp only [Sem.run_bind, equal_bool H, Result.andThen_ok, Sem.run_pure]
theorem ev_neqB {p q : Bool} [H : BoolT P T] (hx : ev σ x = some (.bool p)) (hy : ev σ y = some (.bool q)) : Ev P L σ ⟨d, .binOp .neq T x y T', ty, pos, aft, gd⟩ (.bool (p != q)) :=
  bin_run' _ _ _ _ (eqGuard_bool _ _ _) hx hy fun w => by
    show ((do pure (.bool (!(← Op.equal T (.bool p) (.bool q)))) : Sem Value)).run P w = _
    simp only [Sem.run_bind, equal_bool H, Result.andThen_ok, Sem.run_pure]
    rfl
theorem ev_not {b : Bool} (hx : ev σ x = some (.bool b)) : Ev P L σ ⟨d, .unOp .not T x, ty, pos, aft, gd⟩ (.bool (!b)) := fun a w hs _ => by
  simp only [execOp, hs.eval hx]; rfl
theorem ev_notP {p : Prop} [Decidable p] (hx : ev σ x = some (.bool (decide p))) : Ev P L σ ⟨d, .unOp .not T x, ty, pos, aft, gd⟩ (.bool (decide (¬ p))) := fun a w hs _ => by
  simp only [execOp, hs.eval hx, decide_not]; rfl
theorem ev_neg {p : Int} (hx : ev σ x = some (.int .i64 p)) (hr : -9223372036854775808 ≤ 0 - p ∧ 0 - p ≤ 9223372036854775807) : Ev P L σ ⟨d, .unOp .neg T x, ty, pos, aft, gd⟩ (.int .i64 (0 - p)) := fun a w hs _ => by
  simp only [execOp, hs.eval hx]
  simp [Op.unary, Op.intArith, IntWalk.i64_in _ hr] <;> (have := IntWalk.i64_in _ hr; simpa using this)
theorem ev_pick {b : Bool} (hc : ev σ z = some (.bool b)) (h1 : b = true → ev σ x = some v) (h2 : b = false → ev σ y = some v) : Ev P L σ ⟨d, .pick z x y, ty, pos, aft, gd⟩ v := fun a w hs _ => by
  simp only [execOp, hs.eval hc]
  cases b with
  | true => show Result.ok (Next.value (a.eval x)) w = _; rw [hs.eval (h1 rfl)]
  | false => show Result.ok (Next.value (a.eval y)) w = _; rw [hs.eval (h2 rfl)]
theorem ev_pick_t {b : Bool} (hc : ev σ z = some (.bool b)) (hb : b = true) (h1 : ev σ x = some v) : Ev P L σ ⟨d, .pick z x y, ty, pos, aft, gd⟩ v := ev_pick hc (fun _ => h1) (fun e => by rw [hb] at e; cases e)
theorem ev_pick_f {b : Bool} (hc : ev σ z = some (.bool b)) (hb : b = false) (h1 : ev σ y = some v) : Ev P L σ ⟨d, .pick z x y, ty, pos, aft, gd⟩ v := ev_pick hc (fun e => by rw [hb] at e; cases e) (fun _ => h1)
theorem ev_nilCheck {p : Addr} (hx : ev σ x = some (.pointer (some p))) : Ev P L σ ⟨d, .nilCheck x, ty, pos, aft, gd⟩ (.pointer (some p)) := fun a w hs _ => by
  simp only [execOp, hs.eval hx]; rfl
theorem ev_nilCheckF {f : Fn} {l c : Array Value} (hf : ∀ n, f ≠ .method n) (hx : ev σ x = some (.func f l c)) : Ev P L σ ⟨d, .nilCheck x, ty, pos, aft, gd⟩ (.func f l c) := fun a w hs _ => by
  simp only [execOp, hs.eval hx]
  cases f <;> first | rfl | exact absurd rfl (hf _)
theorem ev_fieldAddr {f b o off n : Nat} {ag : Bool} [H : FldT P T f (off, n + 1, ag)] (hx : ev σ x = some (.pointer (some ⟨b, o, none⟩))) : Ev P L σ ⟨d, .fieldAddr T x f, ty, pos, aft, gd⟩ (.pointer (some ⟨b, o + off, none⟩)) := fun a w hs _ => by
  simp only [execOp, hs.eval hx]
  have h := H.h
  unfold fieldOf at h
  cases hu : P.underlying T with
  | none => rw [hu] at h; cases h
  | some dd =>
    rw [hu] at h
    cases dd <;> first | (cases h; done) | skip
    rename_i fs
    cases hf : fs[f]? with
    | none => simp [hf] at h
    | some fd =>
      simp only [hf] at h
      have key : (sizeOf fd.type).run P w = .ok (n + 1) w ∧ fd.offset = off := by
        by_cases h1 : oneB P fd.type = true
        · simp only [h1, if_true, Option.some.injEq, Prod.mk.injEq] at h
          exact ⟨by rw [(OneT.run ⟨h1⟩ w).2]; rw [← h.2.1], h.1⟩
        · simp only [h1] at h
          cases hi : P.info? fd.type with
          | none => simp [hi] at h
          | some i =>
            simp [hi] at h
            exact ⟨by simp [sizeOf, typeInfo, hi, h.2.2.1], h.2.1⟩
      simp [Instr.fieldAt, run_underlying hu, hf, Instr.sureAddr, fieldPlace, key.1, key.2, Addr.add_lit]
theorem ev_indexAddr {b o n c sz : Nat} {e : TypeId} {by_ : Nat} {k : IntKind} {i : Int} [H : SliceT P T (e, sz, by_)] (hx : ev σ x = some (.slice (some ⟨b, o, none⟩) n c)) (hy : ev σ y = some (.int k i)) (h0 : 0 ≤ i) (h1 : i < n) :
    Ev P L σ ⟨d, .indexAddr T x y, ty, pos, aft, gd⟩ (.pointer (some ⟨b, o + i.toNat * sz, none⟩)) := fun a w hs _ => by
  obtain ⟨hu, ii, hi, hsz, _⟩ := H.spec
  simp only [execOp, hs.eval hx, hs.eval hy]
  simp [Instr.indexAt, run_underlying hu, asIntOf, h0, h1, sizeOf, typeInfo, hi, hsz, Addr.add_lit]
theorem ev_indexAddrN {b o n c sz i : Nat} {e : TypeId} {by_ : Nat} {k : IntKind} [H : SliceT P T (e, sz, by_)] (hx : ev σ x = some (.slice (some ⟨b, o, none⟩) n c)) (hy : ev σ y = some (.int k (i : Int))) (h1 : i < n) :
    Ev P L σ ⟨d, .indexAddr T x y, ty, pos, aft, gd⟩ (.pointer (some ⟨b, o + i * sz, none⟩)) :=
  ev_indexAddr (H := H) hx hy (by omega) (by omega)
theorem ev_indexAddrA {b o n sz : Nat} {e : TypeId} {k : IntKind} {i : Int} [H : ArrT P T (n, e, sz)] (hx : ev σ x = some (.pointer (some ⟨b, o, none⟩))) (hy : ev σ y = some (.int k i)) (h0 : 0 ≤ i) (h1 : i < n) :
    Ev P L σ ⟨d, .indexAddr T x y, ty, pos, aft, gd⟩ (.pointer (some ⟨b, o + i.toNat * sz, none⟩)) := fun a w hs _ => by
  obtain ⟨hu, ii, hi, hsz⟩ := H.spec
  simp only [execOp, hs.eval hx, hs.eval hy]
  simp [Instr.indexAt, run_underlying hu, asIntOf, h0, h1, sizeOf, typeInfo, hi, hsz, Addr.add_lit, Instr.sureAddr]
theorem ev_load {p : Addr} [H : OneT P T] (hx : ev σ x = some (.pointer (some p))) (hl : Ld L p v) : Ev P L σ ⟨d, .load T x, ty, pos, aft, gd⟩ v := fun a w hs hw => by
  simp only [execOp, hs.eval hx]
  have hc : w.cell? p = some v := hl.1 _ hw
  simp [Instr.loadAt, Instr.sureAddr, loadVar, (H.run w).1, run_load, hc]
/-- Several cells, one behind the other. -/
structure LdN (L : List HP) (b o n : Nat) (vs : List Value) : Prop where
  len : vs.length = n
  get : ∀ (j : Nat) (v : Value), vs[j]? = some v → Ld L ⟨b, o + j, none⟩ v
def takeE : List Value → Nat → Option (List Value)
  | _, 0 => some []
  | [], _ + 1 => none
  | v :: l, n + 1 => match takeE l n with
    | some r => some (v :: r)
    | none => none
theorem takeE_get : ∀ {l : List Value} {n : Nat} {r : List Value}, takeE l n = some r → r.length = n ∧ ∀ (j : Nat) (v : Value), r[j]? = some v → l[j]? = some v
  | _, 0, r, h => by simp [takeE] at h; subst h; simp
  | [], _ + 1, _, h => by cases h
  | u :: l, n + 1, r, h => by
    simp only [takeE] at h
    cases ht : takeE l n with
    | none => rw [ht] at h; cases h
    | some r' =>
      rw [ht] at h
      simp at h
      subst h
      obtain ⟨h1, h2⟩ := takeE_get ht
      refine ⟨by simp [h1], fun j v hj => ?_⟩
      cases j with
      | zero => simpa using hj
      | succ j => simpa using h2 j v (by simpa using hj)
def dropE : List Value → Nat → List Value
  | l, 0 => l
  | [], _ + 1 => []
  | _ :: l, n + 1 => dropE l n
theorem dropE_eq : ∀ (l : List Value) (n : Nat), dropE l n = l.drop n
  | l, 0 => by simp [dropE]
  | [], n + 1 => by simp [dropE]
  | _ :: l, n + 1 => by simp [dropE, dropE_eq l n]
theorem LdN.blk {b o n : Nat} {cs vs : List Value} (h : takeE (dropE cs o) n = some vs) : LdN (blk b T cs :: L) b o n vs := ⟨(takeE_get h).1, fun j v hj => by
  have := (takeE_get h).2 j v hj
  rw [dropE_eq, List.getElem?_drop] at this
  exact Ld.blk this⟩
theorem LdN.skip {A : HP} {b o n : Nat} {vs : List Value} (h : LdN L b o n vs) : LdN (A :: L) b o n vs := ⟨h.1, fun j v hj => (h.2 j v hj).skip⟩
theorem loadCells_run {b o n : Nat} {vs : List Value} (h : LdN L b o n vs) {w : World} (hw : sat L w.hm) : (loadCells ⟨b, o, none⟩ n).run P w = .ok vs.toArray w := by
  rw [← h.1]
  exact run_loadCells_list w _ vs fun j v hj => by rw [Addr.add_lit]; exact (h.2 j v hj).1 _ hw
theorem ev_loadN {b o n : Nat} {vs : List Value} [H : AggT P T n] (hx : ev σ x = some (.pointer (some ⟨b, o, none⟩))) (hl : LdN L b o n vs) : Ev P L σ ⟨d, .load T x, ty, pos, aft, gd⟩ (.agg vs.toArray) := fun a w hs hw => by
  simp only [execOp, hs.eval hx]
  simp [Instr.loadAt, Instr.sureAddr, loadVar, (H.run w).1, (H.run w).2, loadCells_run hl hw]
theorem loadN_run {b o n : Nat} {vs : List Value} [H : AggT P T n] (hl : LdN L b o n vs) : ∀ w, sat L w.hm → (loadVar T ⟨b, o, none⟩).run P w = .ok (.agg vs.toArray) w := fun w hw => by
  simp [loadVar, (H.run w).1, (H.run w).2, loadCells_run hl hw]
theorem load_run {p : Addr} [H : OneT P T] (hl : Ld L p v) : ∀ w, sat L w.hm → (loadVar T p).run P w = .ok v w := fun w hw => by
  have hc : w.cell? p = some v := hl.1 _ hw
  simp [loadVar, (H.run w).1, run_load, hc]
theorem ev_field {f off : Nat} {cs : List Value} [H : FldT P T f (off, 1, false)] (hx : ev σ x = some (.agg cs.toArray)) (hv : cs[off]? = some v) : Ev P L σ ⟨d, .field T x f, ty, pos, aft, gd⟩ v := fun a w hs _ => by
  simp only [execOp, hs.eval hx]
  have h := H.h
  unfold fieldOf at h
  cases hu : P.underlying T with
  | none => rw [hu] at h; cases h
  | some dd =>
    rw [hu] at h
    cases dd <;> first | (cases h; done) | skip
    rename_i fs
    cases hf : fs[f]? with
    | none => simp [hf] at h
    | some fd =>
      simp only [hf] at h
      have h1 : oneB P fd.type = true := by
        by_cases h1 : oneB P fd.type = true
        · exact h1
        · simp only [h1] at h
          cases hi : P.info? fd.type with
          | none => simp [hi] at h
          | some i => simp [hi] at h
      simp only [h1, if_true, Option.some.injEq, Prod.mk.injEq] at h
      simp [Instr.field, run_underlying hu, hf, asAgg, part, (OneT.run ⟨h1⟩ w).1, h.1, hv]
theorem ev_fieldN {f off n : Nat} {cs vs : List Value} [H : FldT P T f (off, n, true)] (hx : ev σ x = some (.agg cs.toArray)) (hv : takeE (dropE cs off) n = some vs) : Ev P L σ ⟨d, .field T x f, ty, pos, aft, gd⟩ (.agg vs.toArray) := fun a w hs _ => by
  simp only [execOp, hs.eval hx]
  have h := H.h
  unfold fieldOf at h
  cases hu : P.underlying T with
  | none => rw [hu] at h; cases h
  | some dd =>
    rw [hu] at h
    cases dd <;> first | (cases h; done) | skip
    rename_i fs
    cases hf : fs[f]? with
    | none => simp [hf] at h
    | some fd =>
      simp only [hf] at h
      by_cases h1 : oneB P fd.type = true
      · simp [h1] at h
      · simp only [h1] at h
        cases hi : P.info? fd.type with
        | none => simp [hi] at h
        | some i =>
          simp [hi] at h
          obtain ⟨h2, h3, h4⟩ := h
          obtain ⟨e1, e2⟩ := AggT.run ⟨h2⟩ w
          obtain ⟨g1, g2⟩ := takeE_get hv
          have e3 : List.take n (List.drop off cs) = vs := by
            apply List.ext_getElem?
            intro j
            by_cases hj : j < n
            · have hjv : j < vs.length := by omega
              have := g2 j vs[j] (List.getElem?_eq_getElem hjv)
              rw [dropE_eq] at this
              rw [List.getElem?_take_of_lt hj, this, List.getElem?_eq_getElem hjv]
            · rw [List.getElem?_eq_none (l := vs) (by omega), List.getElem?_eq_none]
              simp; omega
          simp [Instr.field, run_underlying hu, hf, asAgg, part, e1, e2, h3, h4, e3]
theorem ev_len {p : Option Addr} {n c : Nat} {r : TypeId × Nat × Nat} [H : SliceT P T r] (hx : ev σ x = some (.slice p n c)) : Ev P L σ ⟨d, .call ⟨.builtin .len, #[x], #[T]⟩, ty, pos, aft, gd⟩ (.int .i64 n) := fun a w hs _ => by
  obtain ⟨e, s, b⟩ := r
  obtain ⟨hu, _⟩ := H.spec
  simp only [execOp, resolve, List.map_toArray, List.map_cons, List.map_nil, hs.eval hx]
  simp [invoke, builtin, Builtin.len_, run_underlying hu, goInt]
theorem ev_min {p q : Int} {ts : Array TypeId} (hx : ev σ x = some (.int .i64 p)) (hy : ev σ y = some (.int .i64 q)) : Ev P L σ ⟨d, .call ⟨.builtin .min, #[x, y], ts⟩, ty, pos, aft, gd⟩ (.int .i64 (min p q)) := fun a w hs _ => by
  simp only [execOp, resolve, List.map_toArray, List.map_cons, List.map_nil, hs.eval hx, hs.eval hy]
  have : (if q < p then q else p) = min p q := by omega
  simp [invoke, builtin, Builtin.min_, Builtin.min2, this]
theorem ev_max {p q : Int} {ts : Array TypeId} (hx : ev σ x = some (.int .i64 p)) (hy : ev σ y = some (.int .i64 q)) : Ev P L σ ⟨d, .call ⟨.builtin .max, #[x, y], ts⟩, ty, pos, aft, gd⟩ (.int .i64 (max p q)) := fun a w hs _ => by
  simp only [execOp, resolve, List.map_toArray, List.map_cons, List.map_nil, hs.eval hx, hs.eval hy]
  have : (if q > p then q else p) = max p q := by omega
  simp [invoke, builtin, Builtin.max_, Builtin.max2, this]
theorem ev_extract {i : Nat} {vs : List Value} (hx : ev σ x = some (.tuple vs.toArray)) (hv : vs[i]? = some v) : Ev P L σ ⟨d, .extract x i, ty, pos, aft, gd⟩ v := fun a w hs _ => by
  simp only [execOp, hs.eval hx]
  simp [Instr.extract, hv]
/-- Every operand, in order. -/
def evs (σ : Env) : List Operand → Option (List Value)
  | [] => some []
  | x :: l => match ev σ x, evs σ l with
    | some v, some vs => some (v :: vs)
    | _, _ => none
theorem evs_map {a : Act} (hs : SatE σ a) : ∀ {l : List Operand} {vs : List Value}, evs σ l = some vs → l.map a.eval = vs
  | [], _, h => Option.some.inj h
  | x :: l, vs, h => by
    simp only [evs] at h
    cases hx : ev σ x with
    | none => rw [hx] at h; cases h
    | some v =>
      cases hl : evs σ l with
      | none => rw [hx, hl] at h; cases h
      | some r =>
        rw [hx, hl] at h
        simp at h
        rw [List.map_cons, hs.eval hx, evs_map hs hl]; exact h
theorem ev_makeFunc {f : Fn} {l1 l2 : List Operand} {v1 v2 : List Value} (h1 : evs σ l1 = some v1) (h2 : evs σ l2 = some v2) : Ev P L σ ⟨d, .makeFunc f l1.toArray l2.toArray, ty, pos, aft, gd⟩ (.func f v1.toArray v2.toArray) := fun a w hs _ => by
  simp only [execOp, List.map_toArray, evs_map hs h1, evs_map hs h2]; rfl
/-! Reslicing. -/
theorem sliceBounds_run {lo hi : Option Value} {len cap l h : Nat} (hl : lo = none ∧ l = 0 ∨ ∃ k, lo = some (.int k l)) (hh : hi = none ∧ h = len ∨ ∃ k, hi = some (.int k h)) (h1 : l ≤ h) (h2 : h ≤ cap) (w : World) :
    (Instr.sliceBounds true len cap lo hi none).run P w = .ok (l, h, cap) w := by
  have sb : ∀ (k : IntKind) (i y : Nat) (code : BoundsCode), i ≤ y → (Instr.sliceBound (.int k i) y code).run P w = .ok i w := fun k i y code hi => by
    rw [run_sliceBound (P := P) w k i y code (by omega) (by omega)]; simp
  rcases hl with ⟨rfl, rfl⟩ | ⟨k, rfl⟩ <;> rcases hh with ⟨rfl, rfl⟩ | ⟨k', rfl⟩ <;> simp [Instr.sliceBounds, sb, h1, h2]
theorem ev_slice {e : TypeId} {sz by_ : Nat} {p : Option Addr} {n c : Nat} {l h : Nat} {lo hi : Option Operand} [H : SliceT P T (e, sz, by_)] (hx : ev σ x = some (.slice p n c))
    (hl : lo = none ∧ l = 0 ∨ ∃ y k, lo = some y ∧ ev σ y = some (.int k l)) (hh : hi = none ∧ h = n ∨ ∃ y k, hi = some y ∧ ev σ y = some (.int k h)) (h1 : l ≤ h) (h2 : h ≤ c) :
    Ev P L σ ⟨d, .slice T x lo hi none, ty, pos, aft, gd⟩ (.slice (if c = l then p else p.map (·.add (l * sz))) (h - l) (c - l)) := fun a w hs _ => by
  obtain ⟨hu, ii, hi', hsz, _⟩ := H.spec
  have e1 : lo.map a.eval = none ∧ l = 0 ∨ ∃ k, lo.map a.eval = some (.int k l) := by
    rcases hl with ⟨rfl, rfl⟩ | ⟨y, k, rfl, e⟩
    · exact .inl ⟨rfl, rfl⟩
    · exact .inr ⟨k, by simp [hs.eval e]⟩
  have e2 : hi.map a.eval = none ∧ h = n ∨ ∃ k, hi.map a.eval = some (.int k h) := by
    rcases hh with ⟨rfl, rfl⟩ | ⟨y, k, rfl, e⟩
    · exact .inl ⟨rfl, rfl⟩
    · exact .inr ⟨k, by simp [hs.eval e]⟩
  simp only [execOp, hs.eval hx]
  have e3 := sliceBounds_run (P := P) e1 e2 h1 h2 w
  have e4 : (sizeOf e).run P w = .ok sz w := by simp [sizeOf, typeInfo, hi', hsz]
  simp only [Instr.sliceAt, Instr.slice, Sem.run_bind, run_underlying hu, Result.andThen_ok, e3, e4, Option.map_none]
  rfl
/-- [:h] -/
theorem ev_sliceH {e : TypeId} {sz by_ : Nat} {p : Option Addr} {n c : Nat} {h : Nat} {k : IntKind} [H : SliceT P T (e, sz, by_)] (hx : ev σ x = some (.slice p n c)) (hy : ev σ y = some (.int k h)) (h2 : h ≤ c) :
    Ev P L σ ⟨d, .slice T x none (some y) none, ty, pos, aft, gd⟩ (.slice p h c) := fun a w hs hw => by
  have := ev_slice (P := P) (T := T) (H := H) (L := L) (d := d) (ty := ty) (pos := pos) (aft := aft) (gd := gd) (l := 0) (h := h) hx (.inl ⟨rfl, rfl⟩) (.inr ⟨y, k, rfl, hy⟩) (Nat.zero_le _) h2 a w hs hw
  rw [this]
  have e : (if c = 0 then p else p.map (·.add (0 * sz))) = p := by
    split
    · rfl
    · rw [Nat.zero_mul]; cases p <;> simp [Addr.add]
  rw [e, Nat.sub_zero, Nat.sub_zero]
theorem ev_sliceL {e : TypeId} {sz by_ : Nat} {b o : Nat} {n c : Nat} {l : Nat} {k : IntKind} [H : SliceT P T (e, sz, by_)] (hx : ev σ x = some (.slice (some ⟨b, o, none⟩) n c)) (hy : ev σ y = some (.int k l)) (h1 : l ≤ n) (h2 : n ≤ c) :
    Ev P L σ ⟨d, .slice T x (some y) none none, ty, pos, aft, gd⟩ (.slice (some ⟨b, (if c = l then o else o + l * sz), none⟩) (n - l) (c - l)) := fun a w hs hw => by
  have := ev_slice (P := P) (T := T) (H := H) (L := L) (d := d) (ty := ty) (pos := pos) (aft := aft) (gd := gd) (l := l) (h := n) hx (.inr ⟨y, k, rfl, hy⟩) (.inl ⟨rfl, rfl⟩) h1 h2 a w hs hw
  rw [this]
  split <;> simp [Addr.add_lit]
theorem ev_sliceLH {e : TypeId} {sz by_ : Nat} {b o : Nat} {n c : Nat} {l h : Nat} {z : Operand} {k k' : IntKind} [H : SliceT P T (e, sz, by_)] (hx : ev σ x = some (.slice (some ⟨b, o, none⟩) n c)) (hy : ev σ y = some (.int k l)) (hz : ev σ z = some (.int k' h)) (h1 : l ≤ h) (h2 : h ≤ c) :
    Ev P L σ ⟨d, .slice T x (some y) (some z) none, ty, pos, aft, gd⟩ (.slice (some ⟨b, (if c = l then o else o + l * sz), none⟩) (h - l) (c - l)) := fun a w hs hw => by
  have := ev_slice (P := P) (T := T) (H := H) (L := L) (d := d) (ty := ty) (pos := pos) (aft := aft) (gd := gd) (l := l) (h := h) hx (.inr ⟨y, k, rfl, hy⟩) (.inr ⟨z, k', rfl, hz⟩) h1 h2 a w hs hw
  rw [this]
  split <;> simp [Addr.add_lit]

/-! Aggregates. -/
def setN : List Value → Nat → List Value → List Value
  | [], _, _ => []
  | c :: cs, _, [] => c :: cs
  | _ :: cs, 0, v :: vs => v :: setN cs 0 vs
  | c :: cs, i + 1, v :: vs => c :: setN cs i (v :: vs)
theorem setN_nil (cs : List Value) (i : Nat) : setN cs i [] = cs := by cases cs <;> rfl
theorem setN_past (c : Value) (vs : List Value) : ∀ (cs : List Value) (i : Nat), setN (c :: cs) (i + 1) vs = c :: setN cs i vs := by
  intro cs i
  cases vs with
  | nil => rw [setN_nil, setN_nil]
  | cons v vs => rfl
theorem setN_cons : ∀ (cs : List Value) (i : Nat) (v : Value) (vs : List Value), setN cs i (v :: vs) = setN (cs.set i v) (i + 1) vs
  | [], _, _, vs => by cases vs <;> rfl
  | c :: cs, 0, v, vs => (setN_past v vs cs 0).symm
  | c :: cs, i + 1, v, vs => by
    rw [List.set_cons_succ, setN_past, setN_past, setN_cons cs i v vs]
def cellsL : Value → List Value
  | .agg cs => cs.toList
  | v => [v]
theorem cellsL_eq (v : Value) : v.cells = (cellsL v).toArray := by cases v <;> simp [Value.cells, cellsL]
def fillL (pl : Nat → Option (Nat × Nat)) : List Value → List (Nat × Value) → Option (List Value)
  | cs, [] => some cs
  | cs, (i, v) :: r => match pl i with
    | none => none
    | some (off, sz) => bif Nat.beq (cellsL v).length sz && Nat.ble (off + (cellsL v).length) cs.length then fillL pl (setN cs off (cellsL v)) r else none
theorem foldl_setN (vs : List Value) : ∀ (k off : Nat) (cs : List Value), (vs.zipIdx k).foldl (fun (c : Array Value) (p : Value × Nat) => c.setIfInBounds (off + p.2) p.1) cs.toArray = (setN cs (off + k) vs).toArray := by
  induction vs with
  | nil => intro k off cs; rw [setN_nil]; rfl
  | cons v vs ih =>
    intro k off cs
    simp only [List.zipIdx_cons, List.foldl_cons, setN_cons, List.setIfInBounds_toArray]
    exact ih (k + 1) off _
theorem fillL_eq {pl : Nat → Option (Nat × Nat)} : ∀ {parts : List (Nat × Value)} {cs r : List Value}, fillL pl cs parts = some r → Instr.fill pl cs.toArray parts = some r.toArray
  | [], cs, r, h => by simp [fillL] at h; subst h; rfl
  | (i, v) :: ps, cs, r, h => by
    simp only [fillL] at h
    unfold Instr.fill
    cases hp : pl i with
    | none => rw [hp] at h; cases h
    | some q =>
      obtain ⟨off, sz⟩ := q
      rw [hp] at h
      simp only at h
      cases hb : (Nat.beq (cellsL v).length sz && Nat.ble (off + (cellsL v).length) cs.length) with
      | false => rw [hb] at h; cases h
      | true =>
        rw [hb] at h
        simp only [Bool.and_eq_true] at hb
        have h1 := Nat.eq_of_beq_eq_true hb.1
        have h2 := Nat.le_of_ble_eq_true hb.2
        simp only [cellsL_eq, List.size_toArray, h1]
        rw [if_neg (by simp; omega)]
        have h3 := fillL_eq (by simpa using h : fillL pl (setN cs off (cellsL v)) ps = some r)
        rw [← h3]
        congr 1
        rw [← Array.foldl_toList]
        have h4 := foldl_setN (cellsL v) 0 off cs
        rw [Nat.add_zero] at h4
        rw [← h4]
        simp
def evParts (σ : Env) : List (Nat × Operand) → Option (List (Nat × Value))
  | [] => some []
  | (i, x) :: l => match ev σ x, evParts σ l with
    | some v, some vs => some ((i, v) :: vs)
    | _, _ => none
theorem evParts_map {a : Act} (hs : SatE σ a) : ∀ {l : List (Nat × Operand)} {vs : List (Nat × Value)}, evParts σ l = some vs → l.map (fun p => (p.1, a.eval p.2)) = vs
  | [], _, h => Option.some.inj h
  | (i, x) :: l, vs, h => by
    simp only [evParts] at h
    cases hx : ev σ x with
    | none => rw [hx] at h; cases h
    | some v =>
      cases hl : evParts σ l with
      | none => rw [hx, hl] at h; cases h
      | some r =>
        rw [hx, hl] at h
        simp at h
        rw [List.map_cons, hs.eval hx, evParts_map hs hl]; exact h
theorem ev_build {fs : List (Nat × Nat)} {z cs : List Value} {ps : List (Nat × Operand)} {pv : List (Nat × Value)} [H : StructT P T fs] [HZ : ZeroT P T z] (hp : evParts σ ps = some pv) (hf : fillL (fs[·]?) z pv = some cs) :
    Ev P L σ ⟨d, .build T ps.toArray, ty, pos, aft, gd⟩ (.agg cs.toArray) := fun a w hs _ => by
  have e1 : (ps.toArray.map fun (i, x) => (i, a.eval x)) = pv.toArray := by rw [List.map_toArray]; congr 1; exact evParts_map hs hp
  simp only [execOp, e1]
  have hb : P.built T pv = some cs.toArray := by
    have h := H.h
    have hz := HZ.h
    unfold fieldsOf at h
    cases hu : P.underlying T with
    | none => rw [hu] at h; cases h
    | some dd =>
      rw [hu] at h
      cases dd <;> first | (cases h; done) | skip
      rename_i fds
      cases hi : P.info? T with
      | none => rw [hi] at hz; cases hz
      | some i =>
        cases hiz : i.zero with
        | none => rw [hi] at hz; simp [hiz] at hz
        | some v0 =>
          rw [hi] at hz
          simp [hiz] at hz
          simp only [Program.built, hi, hu, hiz, h]
          have e2 : v0.cells = z.toArray := by rw [← hz]
          rw [e2]
          have := fillL_eq hf
          simpa using this
  have := run_build (P := P) w T pv.toArray cs.toArray hb
  simp only [Sem.run_bind, this, Result.andThen_ok, Sem.run_pure]
theorem ev_buildA {n sz : Nat} {e : TypeId} {z cs : List Value} {ps : List (Nat × Operand)} {pv : List (Nat × Value)} [H : ArrT P T (n, e, sz)] [HZ : ZeroT P T z] (hp : evParts σ ps = some pv) (hf : fillL (fun i => some (i * sz, sz)) z pv = some cs) :
    Ev P L σ ⟨d, .build T ps.toArray, ty, pos, aft, gd⟩ (.agg cs.toArray) := fun a w hs _ => by
  have e1 : (ps.toArray.map fun (i, x) => (i, a.eval x)) = pv.toArray := by rw [List.map_toArray]; congr 1; exact evParts_map hs hp
  simp only [execOp, e1]
  have hb : P.built T pv = some cs.toArray := by
    obtain ⟨hu, ie, hie, hs2⟩ := H.spec
    have hz := HZ.h
    cases hi : P.info? T with
    | none => rw [hi] at hz; cases hz
    | some i =>
      cases hiz : i.zero with
      | none => rw [hi] at hz; simp [hiz] at hz
      | some v0 =>
        rw [hi] at hz
        simp [hiz] at hz
        simp only [Program.built, hi, hu, hiz, hie, hs2]
        have e2 : v0.cells = z.toArray := by rw [← hz]
        rw [e2]
        exact fillL_eq hf
  have := run_build (P := P) w T pv.toArray cs.toArray hb
  simp only [Sem.run_bind, this, Result.andThen_ok, Sem.run_pure]
end

/-! Those that make or turn memory. -/
section
variable {P : Program} {g : Glob} {L : List HP} {σ : Env} {d : Option Nat} {ty T T' : TypeId} {pos : String} {aft : Array Edge} {gd : Option (Nat × Bool)} {x y z : Operand} {v u : Value}
theorem newRow_run (T : TypeId) (cs : List Value) (w : World) : (newRow T cs.toArray).run P w = .ok ⟨w.heap.size, 0, none⟩ (w.alloc (.cells cs.toArray T (0, 0))) := by
  simp [newRow]
theorem eff_box (hx : ev σ x = some v) : Eff P g L σ ⟨d, .box T x, ty, pos, aft, gd⟩ fun r L' => ∃ b, r = .pointer (some ⟨b, 0, none⟩) ∧ L' = blk b T (cellsL v) :: L := fun a w hs hw K Q hK => by
  unfold Oper.wp
  simp only [execOp, hs.eval hx, Instr.box, newVar, cellsL_eq, Sem.run_bind, newRow_run, Result.andThen_ok, Sem.run_pure]
  exact hK _ _ _ ⟨_, rfl, rfl⟩ (hw.alloc T _)
theorem eff_alloc {zs : List Value} [H : ZeroT P T zs] : Eff P g L σ ⟨d, .alloc T, ty, pos, aft, gd⟩ fun r L' => ∃ b, r = .pointer (some ⟨b, 0, none⟩) ∧ L' = blk b T zs :: L := fun a w hs hw K Q hK => by
  obtain ⟨v, e1, e2⟩ := H.run w
  unfold Oper.wp
  simp only [execOp, Instr.alloc, newVar, e2, Sem.run_bind, e1, newRow_run, Result.andThen_ok, Sem.run_pure]
  exact hK _ _ _ ⟨_, rfl, rfl⟩ (hw.alloc T _)
theorem eff_buildSlice {e : TypeId} {sz by_ n : Nat} {zs cs : List Value} {ps : List (Nat × Operand)} {pv : List (Nat × Value)} [H : SliceT P T (e, sz, by_)] [HZ : ZeroT P e zs] (hn : n = 0 ∧ cs = [] ∧ ps = [] ∨ n = 1 ∧ zs.length = sz ∧ 0 < sz ∧ sz ≤ 1000 ∧ evParts σ ps = some pv ∧ fillL (fun i => some (i * sz, sz)) zs pv = some cs) :
    Eff P g L σ ⟨d, .buildSlice T n ps.toArray, ty, pos, aft, gd⟩ fun r L' => ∃ b, r = .slice (some ⟨b, 0, none⟩) n n ∧ L' = blk b e cs :: L := fun a w hs hw K Q hK => by
  obtain ⟨hu, ie, hie, hs2, _⟩ := H.spec
  have e4 : (sizeOf e).run P w = .ok sz w := by simp [sizeOf, typeInfo, hie, hs2]
  unfold Oper.wp
  rcases hn with ⟨rfl, rfl, rfl⟩ | ⟨rfl, hz, h0, h1, hp, hf⟩
  · have e8 : ∀ (q : Array Value), (Array.range (0 * sz)).map (fun j => q[j % q.size]!) = [].toArray := fun q => by
      rw [Nat.zero_mul]; simp
    simp only [execOp, Instr.buildSlice, Sem.run_bind, run_underlying hu, Result.andThen_ok, e4]
    rw [if_neg (by omega)]
    simp only [Sem.run_bind, Sem.run_pure, Result.andThen_ok]
    rw [if_pos (by omega)]
    simp only [Sem.run_bind, Sem.run_pure, Result.andThen_ok, e8, Instr.fill, List.map_toArray, List.map_nil, newRow_run]
    exact hK _ _ _ ⟨_, rfl, rfl⟩ (hw.alloc e [])
  · have e1 : (ps.toArray.map fun (i, x) => (i, a.eval x)) = pv.toArray := by rw [List.map_toArray]; congr 1; exact evParts_map hs hp
    obtain ⟨v, e5, e6⟩ := HZ.run w
    have e7 : (Array.range (1 * sz)).map (fun j => zs.toArray[j % zs.toArray.size]!) = zs.toArray := by
      apply Array.ext
      · simp [hz]
      · intro i hi _
        simp at hi
        simp [hz, Nat.mod_eq_of_lt hi, List.getElem?_eq_getElem (show i < zs.length by omega)]
    simp only [execOp, Instr.buildSlice, Sem.run_bind, run_underlying hu, Result.andThen_ok, e4, e1]
    rw [if_neg (by omega)]
    simp only [Sem.run_bind, Sem.run_pure, Result.andThen_ok]
    rw [if_neg (by omega)]
    simp only [Sem.run_bind, e5, Result.andThen_ok, Sem.run_pure, e6, e7, fillL_eq hf, newRow_run]
    exact hK _ _ _ ⟨_, rfl, rfl⟩ (hw.alloc e _)
theorem eff_buildSlice1 {e : TypeId} {sz by_ : Nat} {zs cs : List Value} {ps : List (Nat × Operand)} {pv : List (Nat × Value)} [H : SliceT P T (e, sz, by_)] [HZ : ZeroT P e zs] (hz : (Nat.beq zs.length sz && Nat.ble 1 sz && Nat.ble sz 1000) = true) (hp : evParts σ ps = some pv) (hf : fillL (fun i => some (i * sz, sz)) zs pv = some cs) :
    Eff P g L σ ⟨d, .buildSlice T 1 ps.toArray, ty, pos, aft, gd⟩ fun r L' => ∃ b, r = .slice (some ⟨b, 0, none⟩) 1 1 ∧ L' = blk b e cs :: L := by
  simp only [Bool.and_eq_true] at hz
  exact eff_buildSlice (.inr ⟨rfl, Nat.eq_of_beq_eq_true hz.1.1, Nat.le_of_ble_eq_true hz.1.2, Nat.le_of_ble_eq_true hz.2, hp, hf⟩)
/-- Cells of a block of the list are turned. -/
inductive Upd (b : Nat) (i : Nat) (vs : List Value) : List HP → List HP → Prop where
  | here {T : TypeId} {cs : List Value} {L : List HP} (h : Nat.ble (i + vs.length) cs.length = true) : Upd b i vs (blk b T cs :: L) (blk b T (setN cs i vs) :: L)
  | skip {A : HP} {L L' : List HP} (h : Upd b i vs L L') : Upd b i vs (A :: L) (A :: L')
theorem setN_length : ∀ (vs : List Value) (cs : List Value) (i : Nat), (setN cs i vs).length = cs.length
  | [], cs, i => by rw [setN_nil]
  | v :: vs, cs, i => by simp [setN_cons, setN_length vs]
theorem Upd.front {b i : Nat} {vs : List Value} {L L' : List HP} (h : Upd b i vs L L') : ∃ T cs M, i + vs.length ≤ cs.length ∧ L.Perm (blk b T cs :: M) ∧ L'.Perm (blk b T (setN cs i vs) :: M) := by
  induction h with
  | here h => exact ⟨_, _, _, Nat.le_of_ble_eq_true h, .refl _, .refl _⟩
  | skip _ ih =>
    obtain ⟨T, cs, M, h, p, q⟩ := ih
    exact ⟨T, cs, _ :: M, h, (p.cons _).trans (.swap _ _ _), (q.cons _).trans (.swap _ _ _)⟩
def oneC : Value → Bool
  | .agg _ => false
  | .tuple _ => false
  | _ => true
theorem store_run {w : World} {p : Addr} {v c : Value} (hv : oneC v = true) (hc : w.cell? p = some c) (hf : w.frozen? p = false) : (store p v).run P w = .ok () (w.setCell p v) := by
  cases v <;> first | (cases hv; done) | simp [store, Sem.run, hc, hf]
theorem storeCells_run {g : Glob} {b : Nat} {T : TypeId} {M : List HP} : ∀ (vs : List Value) (o i : Nat) (cs : List Value) (w : World), (∀ v ∈ vs, oneC v = true) → o + i + vs.length ≤ cs.length → Hp g (blk b T cs :: M) w →
    ∃ w', (storeCells ⟨b, o, none⟩ vs i).run P w = .ok () w' ∧ Hp g (blk b T (setN cs (o + i) vs) :: M) w'
  | [], o, i, cs, w, _, _, hw => ⟨w, by simp [storeCells], by rw [setN_nil]; exact hw⟩
  | v :: vs, o, i, cs, w, h1, hl, hw => by
    simp only [List.length_cons] at hl
    have hc : w.cell? ⟨b, o + i, none⟩ = some cs[o + i] := hw.cell (Ld.blk (by rw [List.getElem?_eq_getElem (by omega)]))
    have e1 := store_run (P := P) (h1 v (by simp)) hc hw.blk_frozen
    obtain ⟨w', e2, h2⟩ := storeCells_run vs o (i + 1) (cs.set (o + i) v) (w.setCell ⟨b, o + i, none⟩ v) (fun u hu => h1 u (by simp [hu])) (by simp; omega) (hw.store v)
    exact ⟨w', by simp only [storeCells, Sem.run_bind, Addr.add_lit, e1, Result.andThen_ok, e2], by rw [setN_cons]; exact h2⟩
def allOne : List Value → Bool
  | [] => true
  | v :: l => oneC v && allOne l
theorem allOne_mem : ∀ {l : List Value}, allOne l = true → ∀ v ∈ l, oneC v = true
  | [], _, v, hv => by cases hv
  | u :: l, h, v, hv => by
    simp only [allOne, Bool.and_eq_true] at h
    rcases List.mem_cons.1 hv with rfl | hv
    · exact h.1
    · exact allOne_mem h.2 v hv
theorem eff_store {b o : Nat} {L' : List HP} [H : OneT P T] (hx : ev σ x = some (.pointer (some ⟨b, o, none⟩))) (hy : ev σ y = some v) (hv : oneC v = true) (hu : Upd b o [v] L L') :
    Eff P g L σ ⟨d, .store T x y, ty, pos, aft, gd⟩ fun r M => r = undef ∧ M = L' := fun a w hs hw K Q hK => by
  obtain ⟨B, cs, M, hl, p, q⟩ := hu.front
  have hw' : Hp g (blk b B cs :: M) w := hw.mono fun _ => sat.perm p
  obtain ⟨w', e, h2⟩ := storeCells_run (P := P) [v] o 0 cs w (by simpa using hv) (by simpa using hl) hw'
  have hcl : v.cells = #[v] := by cases v <;> first | rfl | cases hv
  unfold Oper.wp
  simp only [execOp, hs.eval hx, hs.eval hy, Instr.storeAt, Instr.sureAddr, storeVar, Sem.run_bind, Sem.run_pure, Result.andThen_ok, (H.run w).2, hcl]
  rw [if_neg (by simp)]
  simp only [Sem.run_bind, Sem.run_pure, Result.andThen_ok, e]
  exact hK _ _ _ ⟨rfl, rfl⟩ (h2.mono fun _ => sat.perm q.symm)
theorem eff_storeN {b o n : Nat} {vs : List Value} {L' : List HP} [H : AggT P T n] (hx : ev σ x = some (.pointer (some ⟨b, o, none⟩))) (hy : ev σ y = some (.agg vs.toArray)) (hn : Nat.beq vs.length n = true) (hv : allOne vs = true) (hu : Upd b o vs L L') :
    Eff P g L σ ⟨d, .store T x y, ty, pos, aft, gd⟩ fun r M => r = undef ∧ M = L' := fun a w hs hw K Q hK => by
  obtain ⟨B, cs, M, hl, p, q⟩ := hu.front
  have hw' : Hp g (blk b B cs :: M) w := hw.mono fun _ => sat.perm p
  obtain ⟨w', e, h2⟩ := storeCells_run (P := P) vs o 0 cs w (allOne_mem hv) (by simpa using hl) hw'
  have en := Nat.eq_of_beq_eq_true hn
  unfold Oper.wp
  simp only [execOp, hs.eval hx, hs.eval hy, Instr.storeAt, Instr.sureAddr, storeVar, Sem.run_bind, Sem.run_pure, Result.andThen_ok, (H.run w).2, Value.cells]
  rw [if_neg (by simp [en])]
  simp only [Sem.run_bind, Sem.run_pure, Result.andThen_ok, e]
  exact hK _ _ _ ⟨rfl, rfl⟩ (h2.mono fun _ => sat.perm q.symm)
/-- A call of a function, by its contract. -/
theorem calls_of {f : FuncId} {args : Array Value} {post : Value → List HP → Prop} {w : World} (h : Ctr P f args L post) (hw : Hp g L w) : Calls P f args w fun e w' => ∃ v L', e = .returned v ∧ post v L' ∧ Hp g L' w' := by
  have h1 : Hp g ((fun _ => True) :: L) w := ⟨hw.g, fun _ => none, w.hm, fun _ => .inl rfl, fun _ _ e => (by cases e), hSub.refl _, trivial, hw.s⟩
  exact (h g _ w h1).mono fun e w' ⟨v, L', e1, p, q⟩ => ⟨v, L', e1, p, q.mono fun _ s => s.tail⟩
theorem eff_call {f : FuncId} {xs : List Operand} {ts : Array TypeId} {args : List Value} {post : Value → List HP → Prop} [H : CalT P f] (ha : evs σ xs = some args) (h : Ctr P f args.toArray L post) :
    Eff P g L σ ⟨d, .call ⟨.value (.func f), xs.toArray, ts⟩, ty, pos, aft, gd⟩ post := fun a w hs hw K Q hK => by
  unfold Oper.wp
  have e : (execOp a.eval ⟨d, .call ⟨.value (.func f), xs.toArray, ts⟩, ty, pos, aft, gd⟩).run P w = .ok (.enter f args.toArray) w := by
    show (callFunc f (#[] ++ xs.toArray.map a.eval ++ #[])).run P w = _
    rw [List.map_toArray, evs_map hs ha]
    simpa using H.run args.toArray w
  rw [e]
  refine (calls_of h hw).mono fun en w' hq => ?_
  obtain ⟨v, L', rfl, hp, hw'⟩ := hq
  exact hK _ _ _ hp hw'
theorem eff_callv {f : FuncId} {q : Operand} {c1 c2 : List Value} {xs : List Operand} {ts : Array TypeId} {args : List Value} {post : Value → List HP → Prop} [H : CalT P f] (hq : ev σ q = some (.func (.func f) c1.toArray c2.toArray)) (ha : evs σ xs = some args) (h : Ctr P f (c1 ++ args ++ c2).toArray L post) :
    Eff P g L σ ⟨d, .call ⟨.value q, xs.toArray, ts⟩, ty, pos, aft, gd⟩ post := fun a w hs hw K Q hK => by
  unfold Oper.wp
  have e : (execOp a.eval ⟨d, .call ⟨.value q, xs.toArray, ts⟩, ty, pos, aft, gd⟩).run P w = .ok (.enter f (c1 ++ args ++ c2).toArray) w := by
    simp only [execOp, resolve, hs.eval hq, Deferred.ofValue, Sem.run_bind, Sem.run_pure, Result.andThen_ok, invoke, List.map_toArray, evs_map hs ha]
    simpa using H.run (c1 ++ args ++ c2).toArray w
  rw [e]
  refine (calls_of h hw).mono fun en w' hq => ?_
  obtain ⟨v, L', rfl, hp, hw'⟩ := hq
  exact hK _ _ _ hp hw'
end
end Go.Proofs.Ytmgkmammkmlakaa
