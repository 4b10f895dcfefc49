/- Equality of structs of numbers. No program stands in this text. -/
import Derived.Test.YtcdafmmfcjbodaaOps
namespace Go.Proofs.Ytcdafmmfcjbodaa
open Go.RowKit
set_option linter.unusedSimpArgs false
set_option linter.unusedSectionVars false
def unI : List Value → Option (List Int)
  | [] => some []
  | .int .i64 n :: l => match unI l with
    | some r => some (n :: r)
    | none => none
  | _ => none
theorem unI_eq : ∀ {l : List Value} {xs : List Int}, unI l = some xs → l = xs.map (.int .i64)
  | [], xs, h => by simp [unI] at h; subst h; rfl
  | v :: l, xs, h => by
    unfold unI at h
    split at h
    · rename_i e; cases e
    · rename_i n l' e
      cases e
      cases hr : unI l with
      | none => rw [hr] at h; cases h
      | some r => rw [hr] at h; simp at h; subst h; rw [unI_eq hr]; rfl
    · cases h
def flatI (P : Program) : List Field → Nat → Bool
  | [], _ => true
  | f :: fs, i => Nat.beq f.offset i && !(f.name == "_") && (match P.underlying f.type with
    | some (.int _) => true
    | _ => false) && oneB P f.type && flatI P fs (i + 1)
def eqI (P : Program) (T : TypeId) (n : Nat) : Bool :=
  match P.underlying T with
  | some (.struct fs) => flatI P fs.toList 0 && Nat.beq fs.toList.length n && !P.stoodInHeld T && !P.eqGuardType P.depth T
  | _ => false
class EqT (P : Program) (T : TypeId) (n : outParam Nat) : Prop where
  h : eqI P T n = true
section
variable {P : Program} {L : List HP} {σ : Env} {d : Option Nat} {ty T T' : TypeId} {pos : String} {aft : Array Edge} {gd : Option (Nat × Bool)} {x y : Operand}
theorem eqFields_int (dp : Nat) (xs ys : List Int) (w : World) : ∀ (fs : List Field) (i : Nat), flatI P fs i = true → xs.length = i + fs.length → ys.length = i + fs.length →
    (Op.eqFields (dp + 1) (xs.map (Value.int .i64)).toArray (ys.map (Value.int .i64)).toArray fs).run P w = .ok (decide (xs.drop i = ys.drop i)) w
  | [], i, _, hx, hy => by
    simp at hx hy
    simp [Op.eqFields, List.drop_of_length_le (Nat.le_of_eq hx), List.drop_of_length_le (Nat.le_of_eq hy)]
  | f :: fs, i, h, hx, hy => by
    simp only [flatI, Bool.and_eq_true] at h
    obtain ⟨⟨⟨⟨h1, h2⟩, h3⟩, h4⟩, h5⟩ := h
    have e1 := Nat.eq_of_beq_eq_true h1
    simp only [List.length_cons] at hx hy
    have ih := eqFields_int dp xs ys w fs (i + 1) h5 (by omega) (by omega)
    obtain ⟨k, hk⟩ : ∃ k, P.underlying f.type = some (.int k) := by
      split at h3
      · exact ⟨_, by assumption⟩
      · cases h3
    have hp : ∀ zs : List Int, i < zs.length → (part f.type (zs.map (Value.int .i64)).toArray f.offset).run P w = .ok (.int .i64 (zs.getD i 0)) w := fun zs hz => by
      simp [part, (OneT.run ⟨h4⟩ w).1, e1, hz]
    unfold Op.eqFields
    rw [if_pos (by simpa using h2)]
    simp only [Sem.run_bind, hp xs (by omega), hp ys (by omega), Result.andThen_ok, run_equalIn_int w dp f.type .i64 k _ _ hk]
    rw [List.drop_eq_getElem_cons (show i < xs.length by omega), List.drop_eq_getElem_cons (show i < ys.length by omega)]
    have gx : xs.getD i 0 = xs[i] := by simp [show i < xs.length by omega]
    have gy : ys.getD i 0 = ys[i] := by simp [show i < ys.length by omega]
    rw [gx, gy]
    revert ih
    generalize xs.drop (i + 1) = A
    generalize ys.drop (i + 1) = B
    generalize xs[i] = u
    generalize ys[i] = v
    intro ih
    by_cases he : u = v
    · simp [he, ih]
    · simp [he]
theorem equal_int {n : Nat} [H : EqT P T n] {xs ys : List Int} (hx : xs.length = n) (hy : ys.length = n) (w : World) : (Op.equal T (.agg (xs.map (Value.int .i64)).toArray) (.agg (ys.map (Value.int .i64)).toArray)).run P w = .ok (decide (xs = ys)) w ∧ P.eqGuardType P.depth T = false := by
  have h := H.h
  unfold eqI at h
  cases hu : P.underlying T with
  | none => rw [hu] at h; cases h
  | some dd =>
    rw [hu] at h
    cases dd <;> first | (cases h; done) | skip
    rename_i fs
    simp only [Bool.and_eq_true, Bool.not_eq_true'] at h
    obtain ⟨⟨⟨h1, h2⟩, h3⟩, h4⟩ := h
    have e := Nat.eq_of_beq_eq_true h2
    have hf : P.fieldsOf T = fs := by simp [Program.fieldsOf, hu]
    refine ⟨?_, h4⟩
    unfold Op.equal
    rw [show Op.maxDepth = 9998 + 1 + 1 from rfl, run_equalIn_struct w _ T _ _ (by rw [hf]; exact hu) h3, hf]
    have := eqFields_int (P := P) 9998 xs ys w fs.toList 0 h1 (by omega) (by omega)
    simpa using this
theorem ev_eqlS {n : Nat} {cs es : List Value} {xs ys : List Int} [H : EqT P T n] (hx : ev σ x = some (.agg cs.toArray)) (hy : ev σ y = some (.agg es.toArray)) (h1 : unI cs = some xs) (h2 : unI es = some ys) (h3 : Nat.beq xs.length n = true) (h4 : Nat.beq ys.length n = true) :
    Ev P L σ ⟨d, .binOp .eql T x y T', ty, pos, aft, gd⟩ (.bool (decide (xs = ys))) := by
  have e1 := unI_eq h1
  have e2 := unI_eq h2
  have key := fun w => equal_int (P := P) (T := T) (Nat.eq_of_beq_eq_true h3) (Nat.eq_of_beq_eq_true h4) w
  refine bin_run' _ _ _ _ (fun w => run_eqGuard_agg w _ _ _ _ _ _ (key w).2) hx hy fun w => ?_
  show ((do pure (.bool (← Op.equal T (.agg cs.toArray) (.agg es.toArray))) : Sem Value)).run P w = _
  rw [e1, e2]
  simp only [Sem.run_bind, (key w).1, Result.andThen_ok, Sem.run_pure]
theorem ev_neqS {n : Nat} {cs es : List Value} {xs ys : List Int} [H : EqT P T n] (hx : ev σ x = some (.agg cs.toArray)) (hy : ev σ y = some (.agg es.toArray)) (h1 : unI cs = some xs) (h2 : unI es = some ys) (h3 : Nat.beq xs.length n = true) (h4 : Nat.beq ys.length n = true) :
    Ev P L σ ⟨d, .binOp .neq T x y T', ty, pos, aft, gd⟩ (.bool (decide (xs ≠ ys))) := by
  have e1 := unI_eq h1
  have e2 := unI_eq h2
  have key := fun w => equal_int (P := P) (T := T) (Nat.eq_of_beq_eq_true h3) (Nat.eq_of_beq_eq_true h4) w
  refine bin_run' _ _ _ _ (fun w => run_eqGuard_agg w _ _ _ _ _ _ (key w).2) hx hy fun w => ?_
  show ((do pure (.bool (!(← Op.equal T (.agg cs.toArray) (.agg es.toArray)))) : Sem Value)).run P w = _
  rw [e1, e2]
  simp only [Sem.run_bind, (key w).1, Result.andThen_ok, Sem.run_pure, decide_not]
end
end Go.Proofs.Ytcdafmmfcjbodaa
