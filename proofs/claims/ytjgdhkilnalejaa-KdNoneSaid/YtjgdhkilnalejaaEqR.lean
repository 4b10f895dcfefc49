/- A struct is equal to itself, whatever numbers, Bools and pointers it holds. No program stands in this text. -/
import Derived.Test.YtjgdhkilnalejaaEq
import Derived.ChangeKeysEq
namespace Go.Proofs.Ytjgdhkilnalejaa
open Go.RowKit
set_option linter.unusedSimpArgs false
set_option linter.unusedVariables false
inductive Ck where
  | i
  | b
  | p
def ckB : Value → Ck → Bool
  | .int .i64 _, .i => true
  | .bool _, .b => true
  | .pointer _, .p => true
  | _, _ => false
def tyB : List Value → List Ck → Bool
  | [], [] => true
  | v :: vs, c :: cs => ckB v c && tyB vs cs
  | _, _ => false
theorem tyB_len : ∀ {vs : List Value} {cs : List Ck}, tyB vs cs = true → vs.length = cs.length
  | [], [], _ => rfl
  | [], _ :: _, h => by cases h
  | _ :: _, [], h => by cases h
  | v :: vs, c :: cs, h => by
    simp only [tyB, Bool.and_eq_true] at h
    simp [tyB_len h.2]
theorem tyB_drop : ∀ (k : Nat) {vs : List Value} {cs : List Ck}, tyB vs cs = true → tyB (vs.drop k) (cs.drop k) = true
  | 0, _, _, h => h
  | k + 1, [], [], _ => rfl
  | k + 1, [], _ :: _, h => by cases h
  | k + 1, _ :: _, [], h => by cases h
  | k + 1, v :: vs, c :: cs, h => by
    simp only [tyB, Bool.and_eq_true] at h
    exact tyB_drop k h.2
theorem tyB_take : ∀ (k : Nat) {vs : List Value} {cs : List Ck}, tyB vs cs = true → tyB (vs.take k) (cs.take k) = true
  | 0, _, _, _ => by simp [tyB]
  | k + 1, [], [], _ => by simp [tyB]
  | k + 1, [], _ :: _, h => by cases h
  | k + 1, _ :: _, [], h => by cases h
  | k + 1, v :: vs, c :: cs, h => by
    simp only [tyB, Bool.and_eq_true] at h
    simp only [List.take_succ_cons, tyB, h.1, tyB_take k h.2, Bool.and_self]
def oneCk : List Ck → Ck → Bool
  | [.i], .i => true
  | [.b], .b => true
  | [.p], .p => true
  | _, _ => false
theorem oneCk_len {ks : List Ck} {c : Ck} (h : oneCk ks c = true) : ks.length = 1 := by
  unfold oneCk at h
  split at h <;> first | rfl | cases h
theorem oneCk_eq {ks : List Ck} {c : Ck} (h : oneCk ks c = true) : ks = [c] := by
  unfold oneCk at h
  split at h <;> first | rfl | cases h
theorem tyB_one {vs : List Value} {c : Ck} (h : tyB vs [c] = true) : ∃ v, vs = [v] ∧ ckB v c = true := by
  match vs, h with
  | [], h => cases h
  | [v], h => exact ⟨v, rfl, by simpa [tyB] using h⟩
  | _ :: _ :: _, h => simp [tyB] at h
theorem ckB_i {v : Value} (h : ckB v .i = true) : ∃ n, v = .int .i64 n := by
  unfold ckB at h
  split at h <;> first | exact ⟨_, rfl⟩ | (rename_i e; cases e; done) | (cases h; done)
theorem ckB_b {v : Value} (h : ckB v .b = true) : ∃ n, v = .bool n := by
  unfold ckB at h
  split at h <;> first | exact ⟨_, rfl⟩ | (rename_i e; cases e; done) | (cases h; done)
theorem ckB_p {v : Value} (h : ckB v .p = true) : ∃ n, v = .pointer n := by
  unfold ckB at h
  split at h <;> first | exact ⟨_, rfl⟩ | (rename_i e; cases e; done) | (cases h; done)
/-- What a type's cells hold. -/
def reflT (P : Program) : Nat → TypeId → List Ck → Bool
  | 0, _, _ => false
  | k + 1, T, ks => match P.underlying T with
    | some (.int _) => oneB P T && oneCk ks .i
    | some .bool => oneB P T && oneCk ks .b
    | some (.pointer e) => oneB P T && oneCk ks .p && (P.info? e).isSome && !Nat.beq (P.cellsOf e) 0
    | some (.struct fs) => aggB P T ks.length && !P.stoodInHeld T && fs.toList.all fun f => Nat.ble (f.offset + P.cellsOf f.type) ks.length && reflT P k f.type ((ks.drop f.offset).take (P.cellsOf f.type))
    | some (.array n e) => aggB P T ks.length && (P.info? e).isSome && (List.range n).all fun j => Nat.ble (j * P.cellsOf e + P.cellsOf e) ks.length && reflT P k e ((ks.drop (j * P.cellsOf e)).take (P.cellsOf e))
    | _ => false
def aggT (P : Program) (T : TypeId) : Bool := match P.underlying T with
  | some (.struct _) => true
  | some (.array _ _) => true
  | _ => false
def valR (P : Program) (T : TypeId) (vs : List Value) : Value := if aggT P T then .agg vs.toArray else vs.headD undef
section
variable {P : Program}
theorem part_refl {k : Nat} {T : TypeId} {ks : List Ck} (h : reflT P k T ks = true) (vs : List Value) (off : Nat) (hx : off + ks.length ≤ vs.length) (w : World) :
    (part T vs.toArray off).run P w = .ok (valR P T ((vs.drop off).take ks.length)) w := by
  cases k with
  | zero => cases h
  | succ k =>
    unfold reflT at h
    unfold valR aggT
    have one : oneB P T = true → ks.length = 1 → (part T vs.toArray off).run P w = .ok (((vs.drop off).take ks.length).headD undef) w := fun h1 h2 => by
      rw [h2] at hx ⊢
      have hlt : off < vs.length := by omega
      have e3 : ((vs.drop off).take 1).headD undef = vs[off] := by rw [List.drop_eq_getElem_cons hlt]; rfl
      rw [e3]
      simp [part, (OneT.run ⟨h1⟩ w).1, hlt]
    have agg : aggB P T ks.length = true → (part T vs.toArray off).run P w = .ok (.agg ((vs.drop off).take ks.length).toArray) w := fun h1 => by
      obtain ⟨e1, e2⟩ := AggT.run (P := P) ⟨h1⟩ w
      simp only [part, Sem.run_bind, e1, Result.andThen_ok, if_true, e2, Sem.run_pure]
      congr 2
      rw [List.extract_toArray, List.extract_eq_take_drop, Nat.add_sub_cancel_left]
    cases hu : P.underlying T with
    | none => rw [hu] at h; cases h
    | some dd =>
      rw [hu] at h
      cases dd <;> first | (cases h; done) | skip
      all_goals simp only [Bool.and_eq_true] at h
      case bool => exact one h.1 (oneCk_len h.2)
      case int => exact one h.1 (oneCk_len h.2)
      case pointer => exact one h.1.1.1 (oneCk_len h.1.1.2)
      case struct => exact agg h.1.1
      case array => exact agg h.1.1
theorem refl_run : ∀ (k : Nat) (T : TypeId) (ks : List Ck), reflT P k T ks = true → ∀ (d : Nat), k ≤ d → ∀ (vs : List Value) (w : World), tyB vs ks = true → (Op.equalIn d T (valR P T vs) (valR P T vs)).run P w = .ok true w
  | 0, _, _, h, _, _, _, _, _ => by cases h
  | k + 1, T, ks, h, d, hd, vs, w, ht => by
    obtain ⟨d, rfl⟩ : ∃ e, d = e + 1 := ⟨d - 1, by omega⟩
    have hl := tyB_len ht
    unfold reflT at h
    unfold valR aggT
    cases hu : P.underlying T with
    | none => rw [hu] at h; cases h
    | some dd =>
      rw [hu] at h
      cases dd <;> first | (cases h; done) | skip
      all_goals simp only [Bool.and_eq_true] at h
      case bool =>
        have ek := oneCk_eq h.2
        subst ek
        obtain ⟨v, rfl, hv⟩ := tyB_one ht
        obtain ⟨b, rfl⟩ := ckB_b hv
        simpa using run_equalIn_bool w d T b b hu
      case int kk =>
        have ek := oneCk_eq h.2
        subst ek
        obtain ⟨v, rfl, hv⟩ := tyB_one ht
        obtain ⟨a, rfl⟩ := ckB_i hv
        simpa using run_equalIn_int w d T .i64 kk a a hu
      case pointer e =>
        obtain ⟨⟨⟨h1, h2⟩, h3⟩, h4⟩ := h
        obtain ⟨i, hi⟩ := Option.isSome_iff_exists.1 h3
        have hz : P.cellsOf e ≠ 0 := fun h0 => by rw [h0] at h4; cases h4
        have ek := oneCk_eq h2
        subst ek
        obtain ⟨v, rfl, hv⟩ := tyB_one ht
        obtain ⟨q, rfl⟩ := ckB_p hv
        · cases q with
          | none => simp [Op.equalIn, Sem.run_bind, run_underlying hu]
          | some a => simp [Op.equalIn, Sem.run_bind, run_underlying hu, run_sizeOf w hi, hz, sameAddr]
      case struct fs =>
        obtain ⟨⟨h1, h2⟩, h3⟩ := h
        simp only [Bool.not_eq_true'] at h2
        have hf : P.fieldsOf T = fs := by simp [Program.fieldsOf, hu]
        simp only [if_true]
        rw [run_equalIn_struct w _ T _ _ (by rw [hf]; exact hu) h2, hf]
        rw [List.all_eq_true] at h3
        generalize fs.toList = fl at h3
        induction fl with
        | nil => simp [Op.eqFields]
        | cons f fl ih =>
          have hh := h3 f (List.mem_cons_self ..)
          simp only [Bool.and_eq_true] at hh
          have hle := Nat.le_of_ble_eq_true hh.1
          have hlen : ((ks.drop f.offset).take (P.cellsOf f.type)).length = P.cellsOf f.type := by rw [List.length_take, List.length_drop]; omega
          have hp := part_refl hh.2 vs f.offset (by rw [hlen, hl]; exact hle) w
          rw [hlen] at hp
          have hr := refl_run k f.type _ hh.2 d (by omega) ((vs.drop f.offset).take (P.cellsOf f.type)) w (tyB_take _ (tyB_drop _ ht))
          unfold Op.eqFields
          split
          · simp only [Sem.run_bind, hp, Result.andThen_ok, hr, Bool.not_true, Bool.false_eq_true, if_false]
            exact ih fun g hg => h3 g (List.mem_cons_of_mem _ hg)
          · exact ih fun g hg => h3 g (List.mem_cons_of_mem _ hg)
      case array n e =>
        obtain ⟨⟨h1, h2⟩, h3⟩ := h
        obtain ⟨i, hi⟩ := Option.isSome_iff_exists.1 h2
        simp only [if_true]
        rw [run_equalIn_array w d vs.toArray vs.toArray hu hi]
        rw [List.all_eq_true] at h3
        generalize List.range n = fl at h3
        induction fl with
        | nil => simp [Op.eqItems]
        | cons j fl ih =>
          have hh := h3 j (List.mem_cons_self ..)
          simp only [Bool.and_eq_true] at hh
          have hle := Nat.le_of_ble_eq_true hh.1
          have hlen : ((ks.drop (j * P.cellsOf e)).take (P.cellsOf e)).length = P.cellsOf e := by rw [List.length_take, List.length_drop]; omega
          have hp := part_refl hh.2 vs (j * P.cellsOf e) (by rw [hlen, hl]; exact hle) w
          rw [hlen] at hp
          have hr := refl_run k e _ hh.2 d (by omega) ((vs.drop (j * P.cellsOf e)).take (P.cellsOf e)) w (tyB_take _ (tyB_drop _ ht))
          unfold Op.eqItems
          simp only [Sem.run_bind, hp, Result.andThen_ok, hr, Bool.not_true, Bool.false_eq_true, if_false]
          exact ih fun g hg => h3 g (List.mem_cons_of_mem _ hg)
def reflB (P : Program) (T : TypeId) (ks : List Ck) : Bool := aggT P T && reflT P 8 T ks && !P.eqGuardType P.depth T
class ReflT (P : Program) (T : TypeId) (ks : outParam (List Ck)) : Prop where
  h : reflB P T ks = true
variable {L : List HP} {σ : Env} {d : Option Nat} {ty T T' : TypeId} {pos : String} {aft : Array Edge} {gd : Option (Nat × Bool)} {x y : Operand}
theorem ev_eqlR {ks : List Ck} {cs : List Value} [H : ReflT P T ks] (hx : ev σ x = some (.agg cs.toArray)) (hy : ev σ y = some (.agg cs.toArray)) (h1 : tyB cs ks = true) : Ev P L σ ⟨d, .binOp .eql T x y T', ty, pos, aft, gd⟩ (.bool true) := by
  have h := H.h
  unfold reflB at h
  simp only [Bool.and_eq_true, Bool.not_eq_true'] at h
  obtain ⟨⟨h2, h3⟩, h4⟩ := h
  refine bin_run' _ _ _ _ (fun w => run_eqGuard_agg w _ _ _ _ _ _ h4) hx hy fun w => ?_
  show ((do pure (.bool (← Op.equal T (.agg cs.toArray) (.agg cs.toArray))) : Sem Value)).run P w = _
  have key := refl_run 8 T ks h3 Op.maxDepth (by decide) cs w h1
  unfold valR at key
  rw [if_pos h2] at key
  have key2 : (Op.equal T (.agg cs.toArray) (.agg cs.toArray)).run P w = .ok true w := key
  simp only [Sem.run_bind, key2, Result.andThen_ok, Sem.run_pure]
end
end Go.Proofs.Ytjgdhkilnalejaa
