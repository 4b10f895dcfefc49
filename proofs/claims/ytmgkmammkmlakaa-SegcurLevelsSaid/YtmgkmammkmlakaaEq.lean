/- Equality of structs of numbers. No program stands in this text. -/
import Derived.Test.YtmgkmammkmlakaaOps
namespace Go.Proofs.Ytmgkmammkmlakaa
open Go.RowKit
set_option linter.unusedSimpArgs false
set_option linter.unusedSectionVars false
def unI : List Value → Option (List Int)
  | [] => some []
  | .int .i64 n :: l => match unI l with
    | some r => some (n :: r)
    | none => none
  | _ => none
theorem unI_eq : ∀ {l : List Value} {xs : List Int}, unI l = some xs → l = xs.map (.int .i64)
  | [], xs, h => by simp [unI] at h; subst h; rfl
  | v :: l, xs, h => by
    unfold unI at h
    split at h
    · rename_i e; cases e
    · rename_i n l' e
      cases e
      cases hr : unI l with
      | none => rw [hr] at h; cases h
      | some r => rw [hr] at h; simp at h; subst h; rw [unI_eq hr]; rfl
    · cases h
def intsF (r : TypeId → Nat → Bool) (sz : TypeId → Option Nat) : List Field → Nat → Nat → Bool
  | [], i, n => Nat.beq i n
  | f :: fs, i, n => Nat.beq f.offset i && !(f.name == "_") && (match sz f.type with
    | some m => r f.type m && intsF r sz fs (i + m) n
    | none => false)
/-- Numbers alone, so many, however they are nested. -/
def intsT (P : Program) : Nat → TypeId → Nat → Bool
  | 0, _, _ => false
  | k + 1, T, n => match P.underlying T with
    | some (.int _) => oneB P T && Nat.beq n 1
    | some (.struct fs) => aggB P T n && !P.stoodInHeld T && intsF (intsT P k) (fun T => (P.info? T).map (·.size)) fs.toList 0 n
    | _ => false
def isStr (P : Program) (T : TypeId) : Bool := match P.underlying T with
  | some (.struct _) => true
  | _ => false
def eqI (P : Program) (T : TypeId) (n : Nat) : Bool := isStr P T && intsT P 8 T n && !P.eqGuardType P.depth T
class EqT (P : Program) (T : TypeId) (n : outParam Nat) : Prop where
  h : eqI P T n = true
section
variable {P : Program} {L : List HP} {σ : Env} {d : Option Nat} {ty T T' : TypeId} {pos : String} {aft : Array Edge} {gd : Option (Nat × Bool)} {x y : Operand}
def valT (P : Program) (T : TypeId) (xs : List Int) : Value := match P.underlying T with
  | some (.int _) => .int .i64 (xs.headD 0)
  | _ => .agg (xs.map (Value.int .i64)).toArray
theorem part_ints {k : Nat} {T : TypeId} {m : Nat} (h : intsT P k T m = true) (xs : List Int) (off : Nat) (hx : off + m ≤ xs.length) (w : World) :
    (part T (xs.map (Value.int .i64)).toArray off).run P w = .ok (valT P T ((xs.drop off).take m)) w := by
  cases k with
  | zero => cases h
  | succ k =>
    unfold intsT at h
    unfold valT
    cases hu : P.underlying T with
    | none => rw [hu] at h; cases h
    | some dd =>
      rw [hu] at h
      cases dd <;> first | (cases h; done) | skip
      · simp only [Bool.and_eq_true] at h
        obtain ⟨h1, h2⟩ := h
        have e := Nat.eq_of_beq_eq_true h2
        subst e
        have hlt : off < xs.length := by omega
        have e3 : ((xs.drop off).take 1).headD 0 = xs[off] := by rw [List.drop_eq_getElem_cons hlt]; rfl
        rw [e3]
        simp [part, (OneT.run ⟨h1⟩ w).1, hlt]
      · simp only [Bool.and_eq_true] at h
        obtain ⟨⟨h1, h2⟩, h3⟩ := h
        obtain ⟨e1, e2⟩ := AggT.run (P := P) ⟨h1⟩ w
        simp only [part, Sem.run_bind, e1, Result.andThen_ok, if_true, e2, Sem.run_pure]
        congr 2
        rw [List.extract_toArray, List.extract_eq_take_drop, Nat.add_sub_cancel_left, ← List.map_drop, ← List.map_take]
theorem eqFields_ints {k : Nat} (dp n : Nat) (ih : ∀ (T : TypeId) (m : Nat), intsT P k T m = true → ∀ (xs ys : List Int) (w : World), xs.length = m → ys.length = m → (Op.equalIn dp T (valT P T xs) (valT P T ys)).run P w = .ok (decide (xs = ys)) w)
    (xs ys : List Int) (w : World) (hx : xs.length = n) (hy : ys.length = n) : ∀ (fs : List Field) (i : Nat), intsF (intsT P k) (fun T => (P.info? T).map (·.size)) fs i n = true → i ≤ n →
    (Op.eqFields dp (xs.map (Value.int .i64)).toArray (ys.map (Value.int .i64)).toArray fs).run P w = .ok (decide (xs.drop i = ys.drop i)) w
  | [], i, h, hi => by
    have e := Nat.eq_of_beq_eq_true h
    subst e
    simp [Op.eqFields, List.drop_of_length_le (Nat.le_of_eq hx), List.drop_of_length_le (Nat.le_of_eq hy)]
  | f :: fs, i, h, hi => by
    simp only [intsF, Bool.and_eq_true] at h
    obtain ⟨⟨h1, h2⟩, h3⟩ := h
    have e1 := Nat.eq_of_beq_eq_true h1
    split at h3
    · rename_i m hm
      simp only [Bool.and_eq_true] at h3
      obtain ⟨h4, h5⟩ := h3
      have him : i + m ≤ n := by
        clear h4 ih
        have : ∀ (fs : List Field) (j : Nat), intsF (intsT P k) (fun T => (P.info? T).map (·.size)) fs j n = true → j ≤ n := by
          intro fs
          induction fs with
          | nil => intro j hj; exact Nat.le_of_eq (Nat.eq_of_beq_eq_true hj)
          | cons g gs ig =>
            intro j hj
            simp only [intsF, Bool.and_eq_true] at hj
            obtain ⟨_, hj⟩ := hj
            split at hj
            · simp only [Bool.and_eq_true] at hj
              have := ig _ hj.2
              omega
            · cases hj
        exact this fs _ h5
      have rec_ := eqFields_ints dp n ih xs ys w hx hy fs (i + m) h5 him
      unfold Op.eqFields
      rw [if_pos (by simpa using h2)]
      have ex : (xs.drop i).length ≥ m := by rw [List.length_drop]; omega
      have ey : (ys.drop i).length ≥ m := by rw [List.length_drop]; omega
      have hih := ih f.type m h4 ((xs.drop i).take m) ((ys.drop i).take m) w (by rw [List.length_take]; omega) (by rw [List.length_take]; omega)
      simp only [Sem.run_bind, e1, part_ints h4 xs i (by omega), part_ints h4 ys i (by omega), Result.andThen_ok, hih]
      have sx : xs.drop i = (xs.drop i).take m ++ xs.drop (i + m) := by rw [← List.drop_drop, List.take_append_drop]
      have sy : ys.drop i = (ys.drop i).take m ++ ys.drop (i + m) := by rw [← List.drop_drop, List.take_append_drop]
      have key : decide (xs.drop i = ys.drop i) = (decide ((xs.drop i).take m = (ys.drop i).take m) && decide (xs.drop (i + m) = ys.drop (i + m))) := by
        rw [← Bool.decide_and]
        apply decide_eq_decide.2
        constructor
        · intro h
          rw [← List.drop_drop, ← List.drop_drop, h]
          exact ⟨rfl, rfl⟩
        · rintro ⟨a, b⟩
          rw [sx, sy, a, b]
      rw [key]
      cases hc : decide ((xs.drop i).take m = (ys.drop i).take m) with
      | true => simp [rec_]
      | false => simp
    · cases h3
theorem equal_ints : ∀ (k : Nat) (T : TypeId) (n : Nat), intsT P k T n = true → ∀ (d : Nat), k ≤ d → ∀ (xs ys : List Int) (w : World), xs.length = n → ys.length = n → (Op.equalIn d T (valT P T xs) (valT P T ys)).run P w = .ok (decide (xs = ys)) w
  | 0, _, _, h, _, _, _, _, _, _, _ => by cases h
  | k + 1, T, n, h, d, hd, xs, ys, w, hx, hy => by
    obtain ⟨d, rfl⟩ : ∃ e, d = e + 1 := ⟨d - 1, by omega⟩
    unfold intsT at h
    unfold valT
    cases hu : P.underlying T with
    | none => rw [hu] at h; cases h
    | some dd =>
      rw [hu] at h
      cases dd <;> first | (cases h; done) | skip
      · rename_i kk
        simp only [Bool.and_eq_true] at h
        have e := Nat.eq_of_beq_eq_true h.2
        subst e
        match xs, ys, hx, hy with
        | [a], [b], _, _ =>
          simp only [List.headD_cons]
          rw [run_equalIn_int w d T .i64 kk _ _ hu]
          congr 1
          by_cases hab : a = b <;> simp [hab]
      · rename_i fs
        simp only [Bool.and_eq_true, Bool.not_eq_true'] at h
        obtain ⟨⟨h1, h2⟩, h3⟩ := h
        have hf : P.fieldsOf T = fs := by simp [Program.fieldsOf, hu]
        rw [run_equalIn_struct w _ T _ _ (by rw [hf]; exact hu) h2, hf]
        have := eqFields_ints (P := P) (k := k) d n (fun T m hm xs ys w hx hy => equal_ints k T m hm d (by omega) xs ys w hx hy) xs ys w hx hy fs.toList 0 h3 (Nat.zero_le _)
        simpa using this
theorem equal_int {n : Nat} [H : EqT P T n] {xs ys : List Int} (hx : xs.length = n) (hy : ys.length = n) (w : World) : (Op.equal T (.agg (xs.map (Value.int .i64)).toArray) (.agg (ys.map (Value.int .i64)).toArray)).run P w = .ok (decide (xs = ys)) w ∧ P.eqGuardType P.depth T = false := by
  have h := H.h
  unfold eqI at h
  simp only [Bool.and_eq_true, Bool.not_eq_true'] at h
  obtain ⟨⟨h1, h2⟩, h3⟩ := h
  refine ⟨?_, h3⟩
  have hv : ∀ xs : List Int, Value.agg (xs.map (Value.int .i64)).toArray = valT P T xs := fun xs => by
    unfold isStr at h1
    unfold valT
    split at h1
    · rename_i fs hu; rw [hu]
    · cases h1
  unfold Op.equal
  rw [hv, hv]
  exact equal_ints 8 T n h2 Op.maxDepth (by decide) xs ys w hx hy
theorem ev_eqlS {n : Nat} {cs es : List Value} {xs ys : List Int} [H : EqT P T n] (hx : ev σ x = some (.agg cs.toArray)) (hy : ev σ y = some (.agg es.toArray)) (h1 : unI cs = some xs) (h2 : unI es = some ys) (h3 : Nat.beq xs.length n = true) (h4 : Nat.beq ys.length n = true) :
    Ev P L σ ⟨d, .binOp .eql T x y T', ty, pos, aft, gd⟩ (.bool (decide (xs = ys))) := by
  have e1 := unI_eq h1
  have e2 := unI_eq h2
  have key := fun w => equal_int (P := P) (T := T) (Nat.eq_of_beq_eq_true h3) (Nat.eq_of_beq_eq_true h4) w
  refine bin_run' _ _ _ _ (fun w => run_eqGuard_agg w _ _ _ _ _ _ (key w).2) hx hy fun w => ?_
  show ((do pure (.bool (← Op.equal T (.agg cs.toArray) (.agg es.toArray))) : Sem Value)).run P w = _
  rw [e1, e2]
  simp only [Sem.run_bind, (key w).1, Result.andThen_ok, Sem.run_pure]
theorem ev_neqS {n : Nat} {cs es : List Value} {xs ys : List Int} [H : EqT P T n] (hx : ev σ x = some (.agg cs.toArray)) (hy : ev σ y = some (.agg es.toArray)) (h1 : unI cs = some xs) (h2 : unI es = some ys) (h3 : Nat.beq xs.length n = true) (h4 : Nat.beq ys.length n = true) :
    Ev P L σ ⟨d, .binOp .neq T x y T', ty, pos, aft, gd⟩ (.bool (decide (xs ≠ ys))) := by
  have e1 := unI_eq h1
  have e2 := unI_eq h2
  have key := fun w => equal_int (P := P) (T := T) (Nat.eq_of_beq_eq_true h3) (Nat.eq_of_beq_eq_true h4) w
  refine bin_run' _ _ _ _ (fun w => run_eqGuard_agg w _ _ _ _ _ _ (key w).2) hx hy fun w => ?_
  show ((do pure (.bool (!(← Op.equal T (.agg cs.toArray) (.agg es.toArray)))) : Sem Value)).run P w = _
  rw [e1, e2]
  simp only [Sem.run_bind, (key w).1, Result.andThen_ok, Sem.run_pure, decide_not]
end
end Go.Proofs.Ytmgkmammkmlakaa
