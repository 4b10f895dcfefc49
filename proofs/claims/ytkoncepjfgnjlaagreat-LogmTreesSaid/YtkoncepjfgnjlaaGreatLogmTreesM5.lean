/- Texts of the law LogmTrees, one behind the other. -/
import Derived.Test.YtkoncepjfgnjlaaGreatLogmTreesM3
import Derived.Test.YtkoncepjfgnjlaaGreatLogmTreesM4
import Derived.Test.YtkoncepjfgnjlaaGreatLogmTreesM1
import Derived.ChangeKeysEq
import Derived.Test.YtkoncepjfgnjlaaGreatLogmTreesM2
/- Two arrays together: what stands at each place (the plain part). -/
namespace Go.Proofs.YtkoncepjfgnjlaaGreat
set_option linter.unusedVariables false
set_option linter.unusedSimpArgs false

theorem leP_refl (p : Pt) : leP p p := .inr ⟨rfl, .inr ⟨rfl, Int.le_refl _⟩⟩
/-- What an entry says. -/
def MA (i k : Int) (l m : List Pt) (j : Nat) (e : Ent) : Prop := ∃ u l' v m', l = u ++ l' ∧ m = v ++ m' ∧ u.length + v.length = j ∧ e.low = i + u.length ∧ e.high = k + v.length ∧ (∀ x ∈ u, leP x e.p) ∧ (∀ x ∈ v, leP x e.p) ∧ (∀ x ∈ l', leP e.p x) ∧ ∀ x ∈ m', leP e.p x
theorem mrg_inE {i k : Int} {l m : List Pt} {j : Nat} {e : Ent} (h : (mrg i k l m)[j]? = some e) : e.p ∈ l ++ m :=
  (mrg_perm i k l m).subset (List.mem_map.2 ⟨e, List.mem_of_getElem? h, rfl⟩)
theorem MA.left {i k : Int} {a : Pt} {l m : List Pt} (hl : ∀ x ∈ l, leP a x) (hm : ∀ x ∈ m, leP a x) (ih : ∀ j e, (mrg (i + 1) k l m)[j]? = some e → MA (i + 1) k l m j e) :
    ∀ j e, ((⟨a, i, k⟩ : Ent) :: mrg (i + 1) k l m)[j]? = some e → MA i k (a :: l) m j e
  | 0, e, h => by
    simp at h; subst h
    exact ⟨[], a :: l, [], m, rfl, rfl, rfl, by simp, by simp, by simp, by simp, fun x hx => (List.mem_cons.1 hx).elim (fun h => h ▸ leP_refl _) (hl x), hm⟩
  | j + 1, e, h => by
    have h : (mrg (i + 1) k l m)[j]? = some e := by simpa using h
    obtain ⟨u, l', v, m', rfl, rfl, h3, h4, h5, h6, h7, h8, h9⟩ := ih j e h
    refine ⟨a :: u, l', v, m', rfl, rfl, by simp; omega, by rw [h4]; simp; omega, h5, fun x hx => ?_, h7, h8, h9⟩
    rcases List.mem_cons.1 hx with rfl | hx
    · exact (List.mem_append.1 (mrg_inE h)).elim (hl _) (hm _)
    · exact h6 x hx
theorem MA.right {i k : Int} {b : Pt} {l m : List Pt} (hl : ∀ x ∈ l, leP b x) (hm : ∀ x ∈ m, leP b x) (ih : ∀ j e, (mrg i (k + 1) l m)[j]? = some e → MA i (k + 1) l m j e) :
    ∀ j e, ((⟨b, i, k⟩ : Ent) :: mrg i (k + 1) l m)[j]? = some e → MA i k l (b :: m) j e
  | 0, e, h => by
    simp at h; subst h
    exact ⟨[], l, [], b :: m, rfl, rfl, rfl, by simp, by simp, by simp, by simp, hl, fun x hx => (List.mem_cons.1 hx).elim (fun h => h ▸ leP_refl _) (hm x)⟩
  | j + 1, e, h => by
    have h : (mrg i (k + 1) l m)[j]? = some e := by simpa using h
    obtain ⟨u, l', v, m', rfl, rfl, h3, h4, h5, h6, h7, h8, h9⟩ := ih j e h
    refine ⟨u, l', b :: v, m', rfl, rfl, by simp; omega, h4, by rw [h5]; simp; omega, h6, fun x hx => ?_, h8, h9⟩
    rcases List.mem_cons.1 hx with rfl | hx
    · exact (List.mem_append.1 (mrg_inE h)).elim (hl _) (hm _)
    · exact h7 x hx
theorem mrg_at : ∀ (i k : Int) (l m : List Pt), l.Pairwise leP → m.Pairwise leP → ∀ j e, (mrg i k l m)[j]? = some e → MA i k l m j e
  | _, _, [], [], _, _, j, e, h => by simp [mrg] at h
  | i, k, a :: l, [], h1, h2, j, e, h => by
    have h1' := List.pairwise_cons.1 h1
    rw [mrg] at h
    exact MA.left h1'.1 (by simp) (mrg_at (i + 1) k l [] h1'.2 h2) j e h
  | i, k, [], b :: m, h1, h2, j, e, h => by
    have h2' := List.pairwise_cons.1 h2
    rw [mrg] at h
    exact MA.right (by simp) h2'.1 (mrg_at i (k + 1) [] m h1 h2'.2) j e h
  | i, k, a :: l, b :: m, h1, h2, j, e, h => by
    have h1' := List.pairwise_cons.1 h1
    have h2' := List.pairwise_cons.1 h2
    rw [mrg] at h
    split at h
    · rename_i hu
      have hu' := (up_leP _ _).1 hu
      exact MA.left h1'.1 (fun x hx => (List.mem_cons.1 hx).elim (fun h => h ▸ hu') (fun h => leP_trans hu' (h2'.1 x h))) (mrg_at (i + 1) k l (b :: m) h1'.2 h2) j e h
    · rename_i hu
      have hu' : leP b a := (leP_total b a).resolve_right fun h9 => hu ((up_leP _ _).2 h9)
      exact MA.right (fun x hx => (List.mem_cons.1 hx).elim (fun h => h ▸ hu') (fun h => leP_trans hu' (h1'.1 x h))) h2'.1 (mrg_at i (k + 1) (a :: l) m h1 h2'.2) j e h
  termination_by _ _ l m => l.length + m.length
theorem up_self (p : Pt) : up p p = 0 := by simp [up, Pt.cmp]
theorem aheadF_true {p q : Pt} (h : leP q p) : aheadF p true q = true := by
  have := (up_leP _ _).2 h
  unfold aheadF; simp; omega
theorem aheadF_false {p q : Pt} (h : leP p q) : aheadF p false q = false := by
  unfold aheadF
  simp only [Bool.and_false, Bool.or_false, decide_eq_false_iff_not]
  intro h9
  have := leP_anti h ((up_leP _ _).1 (by omega))
  subst this
  rw [up_self] at h9; omega
theorem MA.sides {l m : List Pt} {j : Nat} {e : Ent} (h : MA 0 0 l m j e) : 0 ≤ e.low ∧ 0 ≤ e.high ∧ e.low + e.high = j ∧ e.low ≤ l.length ∧ e.high ≤ m.length ∧ e.low ≤ l.countP (aheadF e.p true) ∧ e.high ≤ m.countP (aheadF e.p true) ∧ l.countP (aheadF e.p false) ≤ e.low ∧ m.countP (aheadF e.p false) ≤ e.high := by
  obtain ⟨u, l', v, m', rfl, rfl, h3, h4, h5, h6, h7, h8, h9⟩ := h
  have a1 : u.countP (aheadF e.p true) = u.length := List.countP_eq_length.2 fun x hx => aheadF_true (h6 x hx)
  have a2 : v.countP (aheadF e.p true) = v.length := List.countP_eq_length.2 fun x hx => aheadF_true (h7 x hx)
  have a3 : l'.countP (aheadF e.p false) = 0 := List.countP_eq_zero.2 fun x hx => by rw [aheadF_false (h8 x hx)]; simp
  have a4 : m'.countP (aheadF e.p false) = 0 := List.countP_eq_zero.2 fun x hx => by rw [aheadF_false (h9 x hx)]; simp
  have a5 := List.countP_le_length (p := aheadF e.p false) (l := u)
  have a6 := List.countP_le_length (p := aheadF e.p false) (l := v)
  rw [List.length_append, List.length_append, List.countP_append, List.countP_append, List.countP_append, List.countP_append]
  omega
theorem RT.of.srt : ∀ {T : RT} {l : List Pt}, T.of l → T.arr.pts.Pairwise leP
  | .nil, l, _ => .nil
  | .node b q a u v lo hi, l, ⟨_, _, h⟩ => by
    rcases h with ⟨p, rfl, _, _, rfl⟩ | ⟨h1, h2, h3, rfl⟩
    · exact List.pairwise_singleton _ _
    · show (join lo.arr hi.arr).pts.Pairwise leP
      unfold Arr.pts
      rw [join_es]
      exact mrg_sorted _ _ _ _ h2.srt h3.srt
theorem pairwise_next {α : Type} {R : α → α → Prop} {l : List α} (h : l.Pairwise R) {k : Nat} {a b : α} (ha : l[k]? = some a) (hb : l[k + 1]? = some b) : R a b := by
  obtain ⟨h1, rfl⟩ := List.getElem?_eq_some_iff.1 ha
  obtain ⟨h2, rfl⟩ := List.getElem?_eq_some_iff.1 hb
  exact List.pairwise_iff_getElem.1 h k (k + 1) h1 h2 (by omega)
end Go.Proofs.YtkoncepjfgnjlaaGreat
/- A struct is equal to itself, whatever numbers, Bools and pointers it holds. No program stands in this text. -/
namespace Go.Proofs.YtkoncepjfgnjlaaGreat
open Go.RowKit
set_option linter.unusedSimpArgs false
set_option linter.unusedVariables false
inductive Ck where
  | i
  | b
  | p
def ckB : Value → Ck → Bool
  | .int .i64 _, .i => true
  | .bool _, .b => true
  | .pointer _, .p => true
  | _, _ => false
def tyB : List Value → List Ck → Bool
  | [], [] => true
  | v :: vs, c :: cs => ckB v c && tyB vs cs
  | _, _ => false
theorem tyB_len : ∀ {vs : List Value} {cs : List Ck}, tyB vs cs = true → vs.length = cs.length
  | [], [], _ => rfl
  | [], _ :: _, h => by cases h
  | _ :: _, [], h => by cases h
  | v :: vs, c :: cs, h => by
    simp only [tyB, Bool.and_eq_true] at h
    simp [tyB_len h.2]
theorem tyB_drop : ∀ (k : Nat) {vs : List Value} {cs : List Ck}, tyB vs cs = true → tyB (vs.drop k) (cs.drop k) = true
  | 0, _, _, h => h
  | k + 1, [], [], _ => rfl
  | k + 1, [], _ :: _, h => by cases h
  | k + 1, _ :: _, [], h => by cases h
  | k + 1, v :: vs, c :: cs, h => by
    simp only [tyB, Bool.and_eq_true] at h
    exact tyB_drop k h.2
theorem tyB_take : ∀ (k : Nat) {vs : List Value} {cs : List Ck}, tyB vs cs = true → tyB (vs.take k) (cs.take k) = true
  | 0, _, _, _ => by simp [tyB]
  | k + 1, [], [], _ => by simp [tyB]
  | k + 1, [], _ :: _, h => by cases h
  | k + 1, _ :: _, [], h => by cases h
  | k + 1, v :: vs, c :: cs, h => by
    simp only [tyB, Bool.and_eq_true] at h
    simp only [List.take_succ_cons, tyB, h.1, tyB_take k h.2, Bool.and_self]
def oneCk : List Ck → Ck → Bool
  | [.i], .i => true
  | [.b], .b => true
  | [.p], .p => true
  | _, _ => false
theorem oneCk_len {ks : List Ck} {c : Ck} (h : oneCk ks c = true) : ks.length = 1 := by
  unfold oneCk at h
  split at h <;> first | rfl | cases h
theorem oneCk_eq {ks : List Ck} {c : Ck} (h : oneCk ks c = true) : ks = [c] := by
  unfold oneCk at h
  split at h <;> first | rfl | cases h
theorem tyB_one {vs : List Value} {c : Ck} (h : tyB vs [c] = true) : ∃ v, vs = [v] ∧ ckB v c = true := by
  match vs, h with
  | [], h => cases h
  | [v], h => exact ⟨v, rfl, by simpa [tyB] using h⟩
  | _ :: _ :: _, h => simp [tyB] at h
theorem ckB_i {v : Value} (h : ckB v .i = true) : ∃ n, v = .int .i64 n := by
  unfold ckB at h
  split at h <;> first | exact ⟨_, rfl⟩ | (rename_i e; cases e; done) | (cases h; done)
theorem ckB_b {v : Value} (h : ckB v .b = true) : ∃ n, v = .bool n := by
  unfold ckB at h
  split at h <;> first | exact ⟨_, rfl⟩ | (rename_i e; cases e; done) | (cases h; done)
theorem ckB_p {v : Value} (h : ckB v .p = true) : ∃ n, v = .pointer n := by
  unfold ckB at h
  split at h <;> first | exact ⟨_, rfl⟩ | (rename_i e; cases e; done) | (cases h; done)
/-- What a type's cells hold. -/
def reflT (P : Program) : Nat → TypeId → List Ck → Bool
  | 0, _, _ => false
  | k + 1, T, ks => match P.underlying T with
    | some (.int _) => oneB P T && oneCk ks .i
    | some .bool => oneB P T && oneCk ks .b
    | some (.pointer e) => oneB P T && oneCk ks .p && (P.info? e).isSome && !Nat.beq (P.cellsOf e) 0
    | some (.struct fs) => aggB P T ks.length && !P.stoodInHeld T && fs.toList.all fun f => Nat.ble (f.offset + P.cellsOf f.type) ks.length && reflT P k f.type ((ks.drop f.offset).take (P.cellsOf f.type))
    | some (.array n e) => aggB P T ks.length && (P.info? e).isSome && (List.range n).all fun j => Nat.ble (j * P.cellsOf e + P.cellsOf e) ks.length && reflT P k e ((ks.drop (j * P.cellsOf e)).take (P.cellsOf e))
    | _ => false
def aggT (P : Program) (T : TypeId) : Bool := match P.underlying T with
  | some (.struct _) => true
  | some (.array _ _) => true
  | _ => false
def valR (P : Program) (T : TypeId) (vs : List Value) : Value := if aggT P T then .agg vs.toArray else vs.headD undef
section
variable {P : Program}
theorem part_refl {k : Nat} {T : TypeId} {ks : List Ck} (h : reflT P k T ks = true) (vs : List Value) (off : Nat) (hx : off + ks.length ≤ vs.length) (w : World) :
    (part T vs.toArray off).run P w = .ok (valR P T ((vs.drop off).take ks.length)) w := by
  cases k with
  | zero => cases h
  | succ k =>
    unfold reflT at h
    unfold valR aggT
    have one : oneB P T = true → ks.length = 1 → (part T vs.toArray off).run P w = .ok (((vs.drop off).take ks.length).headD undef) w := fun h1 h2 => by
      rw [h2] at hx ⊢
      have hlt : off < vs.length := by omega
      have e3 : ((vs.drop off).take 1).headD undef = vs[off] := by rw [List.drop_eq_getElem_cons hlt]; rfl
      rw [e3]
      simp [part, (OneT.run ⟨h1⟩ w).1, hlt]
    have agg : aggB P T ks.length = true → (part T vs.toArray off).run P w = .ok (.agg ((vs.drop off).take ks.length).toArray) w := fun h1 => by
      obtain ⟨e1, e2⟩ := AggT.run (P := P) ⟨h1⟩ w
      simp only [part, Sem.run_bind, e1, Result.andThen_ok, if_true, e2, Sem.run_pure]
      congr 2
      rw [List.extract_toArray, List.extract_eq_take_drop, Nat.add_sub_cancel_left]
    cases hu : P.underlying T with
    | none => rw [hu] at h; cases h
    | some dd =>
      rw [hu] at h
      cases dd <;> first | (cases h; done) | skip
      all_goals simp only [Bool.and_eq_true] at h
      case bool => exact one h.1 (oneCk_len h.2)
      case int => exact one h.1 (oneCk_len h.2)
      case pointer => exact one h.1.1.1 (oneCk_len h.1.1.2)
      case struct => exact agg h.1.1
      case array => exact agg h.1.1
theorem refl_run : ∀ (k : Nat) (T : TypeId) (ks : List Ck), reflT P k T ks = true → ∀ (d : Nat), k ≤ d → ∀ (vs : List Value) (w : World), tyB vs ks = true → (Op.equalIn d T (valR P T vs) (valR P T vs)).run P w = .ok true w
  | 0, _, _, h, _, _, _, _, _ => by cases h
  | k + 1, T, ks, h, d, hd, vs, w, ht => by
    obtain ⟨d, rfl⟩ : ∃ e, d = e + 1 := ⟨d - 1, by omega⟩
    have hl := tyB_len ht
    unfold reflT at h
    unfold valR aggT
    cases hu : P.underlying T with
    | none => rw [hu] at h; cases h
    | some dd =>
      rw [hu] at h
      cases dd <;> first | (cases h; done) | skip
      all_goals simp only [Bool.and_eq_true] at h
      case bool =>
        have ek := oneCk_eq h.2
        subst ek
        obtain ⟨v, rfl, hv⟩ := tyB_one ht
        obtain ⟨b, rfl⟩ := ckB_b hv
        simpa using run_equalIn_bool w d T b b hu
      case int kk =>
        have ek := oneCk_eq h.2
        subst ek
        obtain ⟨v, rfl, hv⟩ := tyB_one ht
        obtain ⟨a, rfl⟩ := ckB_i hv
        simpa using run_equalIn_int w d T .i64 kk a a hu
      case pointer e =>
        obtain ⟨⟨⟨h1, h2⟩, h3⟩, h4⟩ := h
        obtain ⟨i, hi⟩ := Option.isSome_iff_exists.1 h3
        have hz : P.cellsOf e ≠ 0 := fun h0 => by rw [h0] at h4; cases h4
        have ek := oneCk_eq h2
        subst ek
        obtain ⟨v, rfl, hv⟩ := tyB_one ht
        obtain ⟨q, rfl⟩ := ckB_p hv
        · cases q with
          | none => simp [Op.equalIn, Sem.run_bind, run_underlying hu]
          | some a => simp [Op.equalIn, Sem.run_bind, run_underlying hu, run_sizeOf w hi, hz, sameAddr]
      case struct fs =>
        obtain ⟨⟨h1, h2⟩, h3⟩ := h
        simp only [Bool.not_eq_true'] at h2
        have hf : P.fieldsOf T = fs := by simp [Program.fieldsOf, hu]
        simp only [if_true]
        rw [run_equalIn_struct w _ T _ _ (by rw [hf]; exact hu) h2, hf]
        rw [List.all_eq_true] at h3
        generalize fs.toList = fl at h3
        induction fl with
        | nil => simp [Op.eqFields]
        | cons f fl ih =>
          have hh := h3 f (List.mem_cons_self ..)
          simp only [Bool.and_eq_true] at hh
          have hle := Nat.le_of_ble_eq_true hh.1
          have hlen : ((ks.drop f.offset).take (P.cellsOf f.type)).length = P.cellsOf f.type := by rw [List.length_take, List.length_drop]; omega
          have hp := part_refl hh.2 vs f.offset (by rw [hlen, hl]; exact hle) w
          rw [hlen] at hp
          have hr := refl_run k f.type _ hh.2 d (by omega) ((vs.drop f.offset).take (P.cellsOf f.type)) w (tyB_take _ (tyB_drop _ ht))
          unfold Op.eqFields
          split
          · simp only [Sem.run_bind, hp, Result.andThen_ok, hr, Bool.not_true, Bool.false_eq_true, if_false]
            exact ih fun g hg => h3 g (List.mem_cons_of_mem _ hg)
          · exact ih fun g hg => h3 g (List.mem_cons_of_mem _ hg)
      case array n e =>
        obtain ⟨⟨h1, h2⟩, h3⟩ := h
        obtain ⟨i, hi⟩ := Option.isSome_iff_exists.1 h2
        simp only [if_true]
        rw [run_equalIn_array w d vs.toArray vs.toArray hu hi]
        rw [List.all_eq_true] at h3
        generalize List.range n = fl at h3
        induction fl with
        | nil => simp [Op.eqItems]
        | cons j fl ih =>
          have hh := h3 j (List.mem_cons_self ..)
          simp only [Bool.and_eq_true] at hh
          have hle := Nat.le_of_ble_eq_true hh.1
          have hlen : ((ks.drop (j * P.cellsOf e)).take (P.cellsOf e)).length = P.cellsOf e := by rw [List.length_take, List.length_drop]; omega
          have hp := part_refl hh.2 vs (j * P.cellsOf e) (by rw [hlen, hl]; exact hle) w
          rw [hlen] at hp
          have hr := refl_run k e _ hh.2 d (by omega) ((vs.drop (j * P.cellsOf e)).take (P.cellsOf e)) w (tyB_take _ (tyB_drop _ ht))
          unfold Op.eqItems
          simp only [Sem.run_bind, hp, Result.andThen_ok, hr, Bool.not_true, Bool.false_eq_true, if_false]
          exact ih fun g hg => h3 g (List.mem_cons_of_mem _ hg)
def reflB (P : Program) (T : TypeId) (ks : List Ck) : Bool := aggT P T && reflT P 8 T ks && !P.eqGuardType P.depth T
class ReflT (P : Program) (T : TypeId) (ks : outParam (List Ck)) : Prop where
  h : reflB P T ks = true
variable {L : List HP} {σ : Env} {d : Option Nat} {ty T T' : TypeId} {pos : String} {aft : Array Edge} {gd : Option (Nat × Bool)} {x y : Operand}
theorem ev_eqlR {ks : List Ck} {cs : List Value} [H : ReflT P T ks] (hx : ev σ x = some (.agg cs.toArray)) (hy : ev σ y = some (.agg cs.toArray)) (h1 : tyB cs ks = true) : Ev P L σ ⟨d, .binOp .eql T x y T', ty, pos, aft, gd⟩ (.bool true) := by
  have h := H.h
  unfold reflB at h
  simp only [Bool.and_eq_true, Bool.not_eq_true'] at h
  obtain ⟨⟨h2, h3⟩, h4⟩ := h
  refine bin_run' _ _ _ _ (fun w => run_eqGuard_agg w _ _ _ _ _ _ h4) hx hy fun w => ?_
  show ((do pure (.bool (← Op.equal T (.agg cs.toArray) (.agg cs.toArray))) : Sem Value)).run P w = _
  have key := refl_run 8 T ks h3 Op.maxDepth (by decide) cs w h1
  unfold valR at key
  rw [if_pos h2] at key
  have key2 : (Op.equal T (.agg cs.toArray) (.agg cs.toArray)).run P w = .ok true w := key
  simp only [Sem.run_bind, key2, Result.andThen_ok, Sem.run_pure]
end
end Go.Proofs.YtkoncepjfgnjlaaGreat
/- A tree of lists that lead into one another: Check tells true. -/
namespace Go.Proofs.YtkoncepjfgnjlaaGreat
attribute [local irreducible] sat
set_option linter.unusedVariables false
set_option linter.unusedSimpArgs false
set_option maxRecDepth 100000

theorem join_node {a b : Arr} (h : 0 < a.es.length) : join a b = .node (mrg 0 0 a.pts b.pts) a b := by
  cases a with
  | nil => simp [Arr.es] at h
  | node => rfl
theorem asound_ctr : ∀ (T : RT) (l : List Pt) (L : List HP) (q : Option Addr), T.of l → l.length ≤ 100000 → ArrIn L q T.arr → Ctr Tryz.prog 101 #[.pointer q] L fun v L' => v = .bool true ∧ L' = L
  | .nil, l, L, q, _, _, h => by
    have e : q = none := h
    subst e
    exact sound_nil L
  | .node b p a u v lo hi, l, L, q, ho, hn, h => by
    have hlen : a.es.length = l.length := ho.len
    obtain ⟨_, _, hh⟩ := ho
    rcases hh with ⟨p, rfl, rfl, rfl, rfl⟩ | ⟨g1, g2, g3, rfl⟩
    · refine sound_leaf q _ L h (by simp) (fun k e f h1 h2 => ?_) (fun k e h1 => ?_)
      · simp at h2
      · match k with
        | 0 => simp at h1; subst h1; exact ⟨Int.le_refl _, Int.le_refl _⟩
        | k + 1 => simp at h1
    · have n1 : lo.arr.es.length = (l.take ((l.length + 1) / 2)).length := g2.len
      have n2 : hi.arr.es.length = (l.drop ((l.length + 1) / 2)).length := g3.len
      rw [List.length_take] at n1
      rw [List.length_drop] at n2
      have hp : 0 < lo.arr.es.length := by omega
      have ih1 := fun M q => asound_ctr lo _ M q g2 (by rw [List.length_take]; omega)
      have ih2 := fun M q => asound_ctr hi _ M q g3 (by rw [List.length_drop]; omega)
      have s1 := g2.srt
      have s2 := g3.srt
      have e1 : lo.arr.pts.length = lo.arr.es.length := List.length_map _
      have e2 : hi.arr.pts.length = hi.arr.es.length := List.length_map _
      have hm := mrg_length 0 0 lo.arr.pts hi.arr.pts
      have h' : ArrIn L q (join lo.arr hi.arr) := h
      rw [join_node hp] at h'
      refine sound_join q _ _ _ L h' (fun e => by rw [e] at hp; simp [Arr.es] at hp) (by omega) (by omega) (by omega) (fun k e f h1 h2 => ?_) (fun k e h1 => ?_) (by omega) ih1 ih2
      · refine (up_leP _ _).2 (pairwise_next (mrg_sorted 0 0 _ _ s1 s2) (k := k) ?_ ?_)
        · rw [List.getElem?_map, h1]; rfl
        · rw [List.getElem?_map, h2]; rfl
      · have := (mrg_at 0 0 _ _ s1 s2 k e h1).sides
        rw [e1, e2] at this
        exact this
instance : ReflT Tryz.prog 102 [.p, .p] := ⟨by kernel_rfl⟩
theorem rsound_ctr : ∀ (T : RT) (l : List Pt) (A : Option Addr) (n c : Nat) (L : List HP), RIn L T → T.of l → n ≤ 100000 → Rd L A n l → n ≤ c → c ≤ maxLen →
    Ctr Tryz.prog 67 #[.pointer T.addr, .slice A n c] L fun v L' => v = .bool true ∧ L' = L
  | .nil, l, A, n, c, L, h, ho, hn, hl, hc, hc2 => by
    have h1 : l.length = n := hl.len (by decide)
    have e : l = [] := ho
    subst e
    simp at h1
    subst h1
    refine Ctr_of (fn := Tryz.f67) (n := 77) Tryz.func67 rfl rfl rfl ?_
    intro g F
    refine GN ?_
    refine G_region ?_
    refine GQ (ev_assign rfl) ?_
    refine GO_nil ?_
    refine GN ?_
    refine G_region ?_
    refine GQ (ev_move rfl) ?_
    (first | refine GQ (ev_eqlNil rfl rfl) ?_ | refine GQ (ev_eqlPtr rfl rfl) ?_)
    refine GO_nil ?_
    refine GN ?_
    refine G_cond_t rfl rfl ?_
    refine GN ?_
    refine G_region ?_
    refine GQ (ev_move rfl) ?_
    refine GQ (ev_len rfl) ?_
    refine GQ (ev_eql rfl rfl) ?_
    refine GQ (ev_assign rfl) ?_
    refine GO_nil ?_
    refine GN ?_
    refine G_ret rfl (.tmp rfl .nil) EnA ⟨rfl, rfl⟩
  | .node b q a u v lo hi, l, A, n, c, L, h, ho, hn, hl, hc, hc2 => by
    have h1 : l.length = n := hl.len (by decide)
    have hlen : a.es.length = l.length := ho.len
    obtain ⟨⟨pf, g0, eu⟩, ⟨pg, g1, ev⟩, hh⟩ := ho
    have hpos : 0 < n := by have := (List.getElem?_eq_some_iff.1 g0).1; omega
    obtain ⟨z, ha, i1, i2⟩ := h
    have w0 : Ld L ⟨b, 0 + 0, none⟩ (.pointer q) := z.at_ (i := 0) rfl
    have w1 : Ld L ⟨b, 0 + 1, none⟩ (.int .i64 u) := z.at_ (i := 1) rfl
    have w2 : Ld L ⟨b, 0 + 2, none⟩ (.int .i64 v) := z.at_ (i := 2) rfl
    have w3 : Ld L ⟨b, 0 + 3 + 0 * 1, none⟩ (.pointer lo.addr) := z.at_ (i := 3) rfl
    have w4 : Ld L ⟨b, 0 + 3 + 1 * 1, none⟩ (.pointer hi.addr) := z.at_ (i := 4) rfl
    obtain ⟨bb, o, rfl, hx⟩ := hl.at_ hpos
    rw [h1] at g1
    have y0 : LdN L bb (o + 0 * 3) 3 [.int .i64 pf.id, .int .i64 pf.x, .int .i64 pf.y] := hx _ _ g0
    have y1 : LdN L bb (o + (n - 1) * 3) 3 [.int .i64 pg.id, .int .i64 pg.x, .int .i64 pg.y] := hx _ _ g1
    have x0 : Ld L ⟨bb, o + 0 * 3 + 1, none⟩ (.int .i64 pf.x) := y0.at_ (i := 1) rfl
    have x1 : Ld L ⟨bb, o + (n - 1) * 3 + 1, none⟩ (.int .i64 pg.x) := y1.at_ (i := 1) rfl
    have hL := fun M (h : ArrIn M q a) => Len_ctr q a M h
    rw [hlen, h1] at hL
    subst eu ev
    rcases hh with ⟨p, rfl, rfl, rfl, rfl⟩ | ⟨k1, k2, k3, k4⟩
    · simp at h1
      subst h1
      simp at g0 g1
      subst g0 g1
      have w5 : LdN L b (0 + 3) 2 [.pointer none, .pointer none] := ⟨rfl, fun j v hj => by
        match j with
        | 0 => simp at hj; subst hj; exact w3
        | 1 => simp at hj; subst hj; exact w4
        | j + 2 => simp at hj⟩
      refine Ctr_of (fn := Tryz.f67) (n := 77) Tryz.func67 rfl rfl rfl ?_
      intro g F
      refine GN ?_
      refine G_region ?_
      refine GQ (ev_assign rfl) ?_
      refine GO_nil ?_
      refine GN ?_
      refine G_region ?_
      refine GQ (ev_move rfl) ?_
      (first | refine GQ (ev_eqlNil rfl rfl) ?_ | refine GQ (ev_eqlPtr rfl rfl) ?_)
      refine GO_nil ?_
      refine GN ?_
      refine G_cond_f rfl rfl ?_
      refine GN ?_
      refine G_draw (.q 0 (.q 1 (.q 2 (.q 3 (.q 5 (.q 6 (.e 4 (.q 7 (.q 8 (.q 9 (.q 10 (.q 11 (.q 12 (.q 13 (.q 14 (.q 15 (.q 16 (.q 17 (.q 18 (.q 19 (.q 20 (.q 21 (.q 22 (.q 23 (.q 24 (.q 25 (.q 26 (.q 27 (.q 28 (.q 29 (.q 30 (.q 31 (.q 32 .nil))))))))))))))))))))))))))))))))) (by kernel_rfl) (by kernel_rfl) ?_
      refine RM rfl (ev_move rfl) ?_
      (first | refine RM rfl (ev_nilCheck rfl) ?_ | refine RM rfl (ev_nilCheckF (by simp) rfl) ?_)
      refine RM rfl (ev_fieldAddr rfl) ?_
      refine RQ rfl (ev_load rfl LdA) ?_
      refine RM rfl (ev_move rfl) ?_
      refine RQ rfl (ev_len rfl) ?_
      refine RS_e (RE_eff rfl rfl rfl (eff_call rfl (hL _ ha.skip)) ?_); rintro _ _ ⟨rfl, rfl⟩; refine ⟨_, fun _ s => s, ExA, ?_⟩
      refine RM rfl (ev_neq rfl rfl) ?_
      refine RM rfl (ev_move rfl) ?_
      refine RS_m_yes retB_noPanic rfl rfl rfl rfl ⟨_, rfl, (by simp)⟩ rfl (ev_move rfl) ?_
      (first | refine RS_m_yes retB_noPanic rfl rfl rfl rfl ⟨_, rfl, (by simp)⟩ rfl (ev_nilCheck rfl) ?_ | refine RS_m_yes retB_noPanic rfl rfl rfl rfl ⟨_, rfl, (by simp)⟩ rfl (ev_nilCheckF (by simp) rfl) ?_)
      refine RS_m_yes retB_noPanic rfl rfl rfl rfl ⟨_, rfl, (by simp)⟩ rfl (ev_fieldAddr rfl) ?_
      refine RS_q_yes retB_noPanic rfl rfl rfl rfl ⟨_, rfl, (by simp)⟩ rfl (ev_load rfl LdA) ?_
      refine RS_m_yes retB_noPanic rfl rfl rfl rfl ⟨_, rfl, (by simp)⟩ rfl (ev_move rfl) ?_
      (first | refine RS_m_yes retB_noPanic rfl rfl rfl rfl ⟨_, rfl, (by simp)⟩ rfl (ev_indexAddrN rfl rfl NgA) ?_ | refine RS_m_yes retB_noPanic rfl rfl rfl rfl ⟨_, rfl, (by simp)⟩ rfl (ev_indexAddr rfl rfl NgA NgA) ?_)
      refine RS_m_yes retB_noPanic rfl rfl rfl rfl ⟨_, rfl, (by simp)⟩ rfl (ev_fieldAddr rfl) ?_
      refine RS_q_yes retB_noPanic rfl rfl rfl rfl ⟨_, rfl, (by simp)⟩ rfl (ev_load rfl LdA) ?_
      refine RS_m_yes retB_noPanic rfl rfl rfl rfl ⟨_, rfl, (by simp)⟩ rfl (ev_neq rfl rfl) ?_
      refine RM rfl (ev_pick_f rfl (by simp) rfl) ?_
      refine RM rfl (ev_move rfl) ?_
      refine RS_m_yes retB_noPanic rfl rfl rfl rfl ⟨_, rfl, (by simp)⟩ rfl (ev_move rfl) ?_
      (first | refine RS_m_yes retB_noPanic rfl rfl rfl rfl ⟨_, rfl, (by simp)⟩ rfl (ev_nilCheck rfl) ?_ | refine RS_m_yes retB_noPanic rfl rfl rfl rfl ⟨_, rfl, (by simp)⟩ rfl (ev_nilCheckF (by simp) rfl) ?_)
      refine RS_m_yes retB_noPanic rfl rfl rfl rfl ⟨_, rfl, (by simp)⟩ rfl (ev_fieldAddr rfl) ?_
      refine RS_q_yes retB_noPanic rfl rfl rfl rfl ⟨_, rfl, (by simp)⟩ rfl (ev_load rfl LdA) ?_
      refine RS_m_yes retB_noPanic rfl rfl rfl rfl ⟨_, rfl, (by simp)⟩ rfl (ev_move rfl) ?_
      refine RS_m_yes retB_noPanic rfl rfl rfl rfl ⟨_, rfl, (by simp)⟩ rfl (ev_move rfl) ?_
      refine RS_q_yes retB_noPanic rfl rfl rfl rfl ⟨_, rfl, (by simp)⟩ rfl (ev_len rfl) ?_
      (first | refine RS_m_yes retB_noPanic rfl rfl rfl rfl ⟨_, rfl, (by simp)⟩ rfl (ev_subN (q := 1) rfl rfl NgA) ?_ | refine RS_m_yes retB_noPanic rfl rfl rfl rfl ⟨_, rfl, (by simp)⟩ rfl (ev_sub rfl rfl NgA) ?_)
      (first | refine RS_m_yes retB_noPanic rfl rfl rfl rfl ⟨_, rfl, (by simp)⟩ rfl (ev_indexAddrN rfl rfl NgA) ?_ | refine RS_m_yes retB_noPanic rfl rfl rfl rfl ⟨_, rfl, (by simp)⟩ rfl (ev_indexAddr rfl rfl NgA NgA) ?_)
      refine RS_m_yes retB_noPanic rfl rfl rfl rfl ⟨_, rfl, (by simp)⟩ rfl (ev_fieldAddr rfl) ?_
      refine RS_q_yes retB_noPanic rfl rfl rfl rfl ⟨_, rfl, (by simp)⟩ rfl (ev_load rfl LdA) ?_
      refine RS_m_yes retB_noPanic rfl rfl rfl rfl ⟨_, rfl, (by simp)⟩ rfl (ev_neq rfl rfl) ?_
      refine RM rfl (ev_pick_f rfl (by simp) rfl) ?_
      refine RS_nil ?_
      refine GN ?_
      refine G_cond_f rfl (by simp) ?_
      refine GN ?_
      refine G_region ?_
      refine GQ (ev_move rfl) ?_
      refine GQ (ev_len rfl) ?_
      refine GQ (ev_eql rfl rfl) ?_
      refine GO_nil ?_
      refine GN ?_
      refine G_cond_t rfl rfl ?_
      refine GN ?_
      refine G_region ?_
      refine GQ (ev_move rfl) ?_
      (first | refine GQ (ev_nilCheck rfl) ?_ | refine GQ (ev_nilCheckF (by simp) rfl) ?_)
      refine GQ (ev_fieldAddr rfl) ?_
      refine GQ (ev_loadN rfl LnA) ?_
      refine GQ (ev_buildA rfl rfl) ?_
      refine GQ (ev_eqlR rfl rfl rfl) ?_
      refine GQ (ev_assign rfl) ?_
      refine GO_nil ?_
      refine GN ?_
      refine G_ret rfl (.tmp rfl .nil) EnA ⟨rfl, rfl⟩
    · have m1 := hl.take (k := (n + 1) / 2) (by omega)
      have m2 := hl.drop (k := (n + 1) / 2) (c := c) (by omega) hc
      rw [h1] at k2 k3
      have s1 := fun M (h : RIn M lo) (h' : Rd M (some ⟨bb, o, none⟩) ((n + 1) / 2) (l.take ((n + 1) / 2))) => rsound_ctr lo _ _ ((n + 1) / 2) c M h k2 (by omega) h' (by omega) hc2
      have s2 := fun M (h : RIn M hi) (h' : Rd M (some ⟨bb, if c = (n + 1) / 2 then o else o + (n + 1) / 2 * Enc.sz Pt, none⟩) (n - (n + 1) / 2) (l.drop ((n + 1) / 2))) => rsound_ctr hi _ _ (n - (n + 1) / 2) (c - (n + 1) / 2) M h k3 (by omega) h' (by omega) (by omega)
      generalize hmid : (n + 1) / 2 = mid at *
      unfold maxLen at hc2
      refine Ctr_of (fn := Tryz.f67) (n := 77) Tryz.func67 rfl rfl rfl ?_
      intro g F
      refine GN ?_
      refine G_region ?_
      refine GQ (ev_assign rfl) ?_
      refine GO_nil ?_
      refine GN ?_
      refine G_region ?_
      refine GQ (ev_move rfl) ?_
      (first | refine GQ (ev_eqlNil rfl rfl) ?_ | refine GQ (ev_eqlPtr rfl rfl) ?_)
      refine GO_nil ?_
      refine GN ?_
      refine G_cond_f rfl rfl ?_
      refine GN ?_
      refine G_draw (.q 0 (.q 1 (.q 2 (.q 3 (.q 5 (.q 6 (.e 4 (.q 7 (.q 8 (.q 9 (.q 10 (.q 11 (.q 12 (.q 13 (.q 14 (.q 15 (.q 16 (.q 17 (.q 18 (.q 19 (.q 20 (.q 21 (.q 22 (.q 23 (.q 24 (.q 25 (.q 26 (.q 27 (.q 28 (.q 29 (.q 30 (.q 31 (.q 32 .nil))))))))))))))))))))))))))))))))) (by kernel_rfl) (by kernel_rfl) ?_
      refine RM rfl (ev_move rfl) ?_
      (first | refine RM rfl (ev_nilCheck rfl) ?_ | refine RM rfl (ev_nilCheckF (by simp) rfl) ?_)
      refine RM rfl (ev_fieldAddr rfl) ?_
      refine RQ rfl (ev_load rfl LdA) ?_
      refine RM rfl (ev_move rfl) ?_
      refine RQ rfl (ev_len rfl) ?_
      refine RS_e (RE_eff rfl rfl rfl (eff_call rfl (hL _ ha.skip)) ?_); rintro _ _ ⟨rfl, rfl⟩; refine ⟨_, fun _ s => s, ExA, ?_⟩
      refine RM rfl (ev_neq rfl rfl) ?_
      refine RM rfl (ev_move rfl) ?_
      refine RS_m_yes retB_noPanic rfl rfl rfl rfl ⟨_, rfl, (by simp)⟩ rfl (ev_move rfl) ?_
      (first | refine RS_m_yes retB_noPanic rfl rfl rfl rfl ⟨_, rfl, (by simp)⟩ rfl (ev_nilCheck rfl) ?_ | refine RS_m_yes retB_noPanic rfl rfl rfl rfl ⟨_, rfl, (by simp)⟩ rfl (ev_nilCheckF (by simp) rfl) ?_)
      refine RS_m_yes retB_noPanic rfl rfl rfl rfl ⟨_, rfl, (by simp)⟩ rfl (ev_fieldAddr rfl) ?_
      refine RS_q_yes retB_noPanic rfl rfl rfl rfl ⟨_, rfl, (by simp)⟩ rfl (ev_load rfl LdA) ?_
      refine RS_m_yes retB_noPanic rfl rfl rfl rfl ⟨_, rfl, (by simp)⟩ rfl (ev_move rfl) ?_
      (first | refine RS_m_yes retB_noPanic rfl rfl rfl rfl ⟨_, rfl, (by simp)⟩ rfl (ev_indexAddrN rfl rfl NgA) ?_ | refine RS_m_yes retB_noPanic rfl rfl rfl rfl ⟨_, rfl, (by simp)⟩ rfl (ev_indexAddr rfl rfl NgA NgA) ?_)
      refine RS_m_yes retB_noPanic rfl rfl rfl rfl ⟨_, rfl, (by simp)⟩ rfl (ev_fieldAddr rfl) ?_
      refine RS_q_yes retB_noPanic rfl rfl rfl rfl ⟨_, rfl, (by simp)⟩ rfl (ev_load rfl LdA) ?_
      refine RS_m_yes retB_noPanic rfl rfl rfl rfl ⟨_, rfl, (by simp)⟩ rfl (ev_neq rfl rfl) ?_
      refine RM rfl (ev_pick_f rfl (by simp) rfl) ?_
      refine RM rfl (ev_move rfl) ?_
      refine RS_m_yes retB_noPanic rfl rfl rfl rfl ⟨_, rfl, (by simp)⟩ rfl (ev_move rfl) ?_
      (first | refine RS_m_yes retB_noPanic rfl rfl rfl rfl ⟨_, rfl, (by simp)⟩ rfl (ev_nilCheck rfl) ?_ | refine RS_m_yes retB_noPanic rfl rfl rfl rfl ⟨_, rfl, (by simp)⟩ rfl (ev_nilCheckF (by simp) rfl) ?_)
      refine RS_m_yes retB_noPanic rfl rfl rfl rfl ⟨_, rfl, (by simp)⟩ rfl (ev_fieldAddr rfl) ?_
      refine RS_q_yes retB_noPanic rfl rfl rfl rfl ⟨_, rfl, (by simp)⟩ rfl (ev_load rfl LdA) ?_
      refine RS_m_yes retB_noPanic rfl rfl rfl rfl ⟨_, rfl, (by simp)⟩ rfl (ev_move rfl) ?_
      refine RS_m_yes retB_noPanic rfl rfl rfl rfl ⟨_, rfl, (by simp)⟩ rfl (ev_move rfl) ?_
      refine RS_q_yes retB_noPanic rfl rfl rfl rfl ⟨_, rfl, (by simp)⟩ rfl (ev_len rfl) ?_
      (first | refine RS_m_yes retB_noPanic rfl rfl rfl rfl ⟨_, rfl, (by simp)⟩ rfl (ev_subN (q := 1) rfl rfl NgA) ?_ | refine RS_m_yes retB_noPanic rfl rfl rfl rfl ⟨_, rfl, (by simp)⟩ rfl (ev_sub rfl rfl NgA) ?_)
      (first | refine RS_m_yes retB_noPanic rfl rfl rfl rfl ⟨_, rfl, (by simp)⟩ rfl (ev_indexAddrN rfl rfl NgA) ?_ | refine RS_m_yes retB_noPanic rfl rfl rfl rfl ⟨_, rfl, (by simp)⟩ rfl (ev_indexAddr rfl rfl NgA NgA) ?_)
      refine RS_m_yes retB_noPanic rfl rfl rfl rfl ⟨_, rfl, (by simp)⟩ rfl (ev_fieldAddr rfl) ?_
      refine RS_q_yes retB_noPanic rfl rfl rfl rfl ⟨_, rfl, (by simp)⟩ rfl (ev_load rfl LdA) ?_
      refine RS_m_yes retB_noPanic rfl rfl rfl rfl ⟨_, rfl, (by simp)⟩ rfl (ev_neq rfl rfl) ?_
      refine RM rfl (ev_pick_f rfl (by simp) rfl) ?_
      refine RS_nil ?_
      refine GN ?_
      refine G_cond_f rfl (by simp) ?_
      refine GN ?_
      refine G_region ?_
      refine GQ (ev_move rfl) ?_
      refine GQ (ev_len rfl) ?_
      refine GQ (ev_eql rfl rfl) ?_
      refine GO_nil ?_
      refine GN ?_
      refine G_cond_f rfl (decide_eq_false (by omega)) ?_
      refine GN ?_
      refine G_region ?_
      refine GQ (ev_move rfl) ?_
      refine GQ (ev_len rfl) ?_
      (first | refine GQ (ev_addN (q := 1) rfl rfl NgA) ?_ | refine GQ (ev_add rfl rfl NgA) ?_)
      refine GQ (ev_quoN (q := 2) rfl rfl (by omega) (by omega)) ?_
      rw [hmid]
      refine GQ (ev_assign rfl) ?_
      refine GO_nil ?_
      refine GN ?_
      refine G_draw (.q 0 (.q 1 (.q 2 (.q 3 (.q 4 (.q 5 (.q 6 (.q 7 (.e 8 (.q 9 (.q 10 (.q 11 (.q 12 (.q 13 (.q 14 (.q 15 (.q 16 (.q 17 (.e 18 (.q 19 (.q 20 .nil))))))))))))))))))))) (by kernel_rfl) (by kernel_rfl) ?_
      refine RM rfl (ev_move rfl) ?_
      (first | refine RM rfl (ev_nilCheck rfl) ?_ | refine RM rfl (ev_nilCheckF (by simp) rfl) ?_)
      refine RM rfl (ev_fieldAddr rfl) ?_
      refine RM rfl (ev_indexAddrA rfl rfl NgA NgA) ?_
      refine RQ rfl (ev_load rfl LdA) ?_
      refine RM rfl (ev_move rfl) ?_
      refine RM rfl (ev_move rfl) ?_
      refine RQ rfl (ev_sliceH rfl rfl NgA) ?_
      refine RS_e (RE_eff rfl rfl rfl (eff_call rfl (s1 _ i1.skip m1.skip)) ?_); rintro _ _ ⟨rfl, rfl⟩; refine ⟨_, fun _ s => s, ExA, ?_⟩
      refine RM rfl (ev_move rfl) ?_
      refine RS_m_yes retB_noPanic rfl rfl rfl rfl ⟨_, rfl, rfl⟩ rfl (ev_move rfl) ?_
      (first | refine RS_m_yes retB_noPanic rfl rfl rfl rfl ⟨_, rfl, rfl⟩ rfl (ev_nilCheck rfl) ?_ | refine RS_m_yes retB_noPanic rfl rfl rfl rfl ⟨_, rfl, rfl⟩ rfl (ev_nilCheckF (by simp) rfl) ?_)
      refine RS_m_yes retB_noPanic rfl rfl rfl rfl ⟨_, rfl, rfl⟩ rfl (ev_fieldAddr rfl) ?_
      refine RS_m_yes retB_noPanic rfl rfl rfl rfl ⟨_, rfl, rfl⟩ rfl (ev_indexAddrA rfl rfl NgA NgA) ?_
      refine RS_q_yes retB_noPanic rfl rfl rfl rfl ⟨_, rfl, rfl⟩ rfl (ev_load rfl LdA) ?_
      refine RS_m_yes retB_noPanic rfl rfl rfl rfl ⟨_, rfl, rfl⟩ rfl (ev_move rfl) ?_
      refine RS_m_yes retB_noPanic rfl rfl rfl rfl ⟨_, rfl, rfl⟩ rfl (ev_move rfl) ?_
      refine RS_q_yes retB_noPanic rfl rfl rfl rfl ⟨_, rfl, rfl⟩ rfl (ev_sliceL rfl rfl NgA NgA) ?_
      refine RS_e (RE_eff_yes rfl rfl rfl ⟨_, rfl, rfl⟩ rfl (eff_call rfl (s2 _ i2.skip m2.skip)) ?_); rintro _ _ ⟨rfl, rfl⟩; refine ⟨_, fun _ s => s, ExA, ?_⟩
      refine RM rfl (ev_pick_t rfl rfl rfl) ?_
      refine RM rfl (ev_assign rfl) ?_
      refine RS_nil ?_
      refine GN ?_
      refine G_ret rfl (.tmp rfl .nil) EnA ⟨rfl, rfl⟩
theorem tCheck_ctr {t : Nat} {T : RT} {A : Option Addr} {c : Nat} {l : List Pt} {L : List HP} (h : TR L t T A c l) (hn : l.length ≤ 100000) : Ctr Tryz.prog 38 #[.pointer (some ⟨t, 0, none⟩)] L fun v L' => v = .bool true ∧ L' = L := by
  have z0 : Ld L ⟨t, 0 + 0, none⟩ (.pointer T.addr) := h.z.at_ (i := 0) rfl
  have z1 : Ld L ⟨t, 0 + 1, none⟩ (.slice A l.length c) := h.z.at_ (i := 1) rfl
  have hin := h.i
  have ho := h.o
  have hs := fun M (hi : RIn M T) (hr : Rd M A l.length l) => rsound_ctr T l A l.length c M hi ho hn hr h.c1 h.c2
  have hI := fun M (hr : Rd M A l.length l) => IsO_ctr less_ls A l.length c l M hr (by omega) (h.a.srt sto_less)
  cases hT : T with
  | nil =>
    subst hT
    refine Ctr_of (fn := Tryz.f38) (n := 40) Tryz.func38 rfl rfl rfl ?_
    intro g F
    refine GN ?_
    refine G_region ?_
    refine GQ (ev_assign rfl) ?_
    refine GO_nil ?_
    refine GN ?_
    refine G_draw (.q 0 (.q 1 (.q 2 (.q 3 (.q 4 (.q 5 (.q 6 (.e 7 (.q 8 (.q 9 (.q 10 (.q 11 (.q 12 (.q 13 (.q 14 (.q 15 (.q 16 (.q 17 (.q 18 (.e 19 (.q 20 (.q 21 .nil)))))))))))))))))))))) (by kernel_rfl) (by kernel_rfl) ?_
    refine RM rfl (ev_move rfl) ?_
    (first | refine RM rfl (ev_eqlNil rfl rfl) ?_ | refine RM rfl (ev_eqlPtr rfl rfl) ?_)
    refine RM rfl (ev_move rfl) ?_
    refine RS_m_yes retB_noPanic rfl rfl rfl rfl ⟨_, rfl, rfl⟩ rfl (ev_move rfl) ?_
    (first | refine RS_m_yes retB_noPanic rfl rfl rfl rfl ⟨_, rfl, rfl⟩ rfl (ev_nilCheck rfl) ?_ | refine RS_m_yes retB_noPanic rfl rfl rfl rfl ⟨_, rfl, rfl⟩ rfl (ev_nilCheckF (by simp) rfl) ?_)
    refine RS_m_yes retB_noPanic rfl rfl rfl rfl ⟨_, rfl, rfl⟩ rfl (ev_fieldAddr rfl) ?_
    refine RS_q_yes retB_noPanic rfl rfl rfl rfl ⟨_, rfl, rfl⟩ rfl (ev_load rfl LdA) ?_
    refine RS_e (RE_eff_yes rfl rfl rfl ⟨_, rfl, rfl⟩ rfl (eff_call rfl (hI _ h.r.skip)) ?_); rintro _ _ ⟨rfl, rfl⟩; refine ⟨_, fun _ s => s, ExA, ?_⟩
    refine RS_m_yes retB_noPanic rfl rfl rfl rfl ⟨_, rfl, rfl⟩ rfl (ev_not rfl) ?_
    refine RM rfl (ev_pick_f rfl rfl rfl) ?_
    refine RM rfl (ev_move rfl) ?_
    refine RS_m_yes retB_noPanic rfl rfl rfl rfl ⟨_, rfl, rfl⟩ rfl (ev_move rfl) ?_
    (first | refine RS_m_yes retB_noPanic rfl rfl rfl rfl ⟨_, rfl, rfl⟩ rfl (ev_nilCheck rfl) ?_ | refine RS_m_yes retB_noPanic rfl rfl rfl rfl ⟨_, rfl, rfl⟩ rfl (ev_nilCheckF (by simp) rfl) ?_)
    refine RS_m_yes retB_noPanic rfl rfl rfl rfl ⟨_, rfl, rfl⟩ rfl (ev_fieldAddr rfl) ?_
    refine RS_q_yes retB_noPanic rfl rfl rfl rfl ⟨_, rfl, rfl⟩ rfl (ev_load rfl LdA) ?_
    refine RS_m_yes retB_noPanic rfl rfl rfl rfl ⟨_, rfl, rfl⟩ rfl (ev_move rfl) ?_
    (first | refine RS_m_yes retB_noPanic rfl rfl rfl rfl ⟨_, rfl, rfl⟩ rfl (ev_nilCheck rfl) ?_ | refine RS_m_yes retB_noPanic rfl rfl rfl rfl ⟨_, rfl, rfl⟩ rfl (ev_nilCheckF (by simp) rfl) ?_)
    refine RS_m_yes retB_noPanic rfl rfl rfl rfl ⟨_, rfl, rfl⟩ rfl (ev_fieldAddr rfl) ?_
    refine RS_q_yes retB_noPanic rfl rfl rfl rfl ⟨_, rfl, rfl⟩ rfl (ev_load rfl LdA) ?_
    refine RS_e (RE_eff_yes rfl rfl rfl ⟨_, rfl, rfl⟩ rfl (eff_call rfl (hs _ trivial h.r.skip)) ?_); rintro _ _ ⟨rfl, rfl⟩; refine ⟨_, fun _ s => s, ExA, ?_⟩
    refine RS_m_yes retB_noPanic rfl rfl rfl rfl ⟨_, rfl, rfl⟩ rfl (ev_not rfl) ?_
    refine RM rfl (ev_pick_f rfl rfl rfl) ?_
    refine RS_nil ?_
    refine GN ?_
    refine G_cond_f rfl rfl ?_
    refine GN ?_
    refine G_region ?_
    refine GQ (ev_move rfl) ?_
    (first | refine GQ (ev_nilCheck rfl) ?_ | refine GQ (ev_nilCheckF (by simp) rfl) ?_)
    refine GQ (ev_fieldAddr rfl) ?_
    refine GQ (ev_load rfl LdA) ?_
    (first | refine GQ (ev_eqlNil rfl rfl) ?_ | refine GQ (ev_eqlPtr rfl rfl) ?_)
    refine GQ (ev_move rfl) ?_
    refine GO_no rfl rfl rfl rfl ?_
    refine GO_no rfl rfl rfl rfl ?_
    refine GO_no rfl rfl rfl rfl ?_
    refine GO_no rfl rfl rfl rfl ?_
    refine GO_no rfl rfl rfl rfl ?_
    refine GO_no rfl rfl rfl rfl ?_
    refine GO_no rfl rfl rfl rfl ?_
    refine GO_no rfl rfl rfl rfl ?_
    refine GQ (ev_pick_t rfl rfl rfl) ?_
    refine GQ (ev_assign rfl) ?_
    refine GO_nil ?_
    refine GN ?_
    refine G_ret rfl (.tmp rfl .nil) EnA ⟨rfl, rfl⟩
  | node d q a u v lo hi' =>
    subst hT
    have z5 : Ld L ⟨t, 0 + 0, none⟩ (.pointer (some ⟨d, 0, none⟩)) := z0
    have z6 : Ld L ⟨d, 0 + 0, none⟩ (.pointer q) := hin.1.at_ (i := 0) rfl
    have ha : ArrIn L q a := hin.2.1
    have hsa := fun X => asound_ctr (RT.node d q a u v lo hi') l (X :: L) q ho hn (show ArrIn (X :: L) q a from ha.skip)
    cases hq : q with
    | none =>
      subst hq
      exfalso
      have hl := ho.len
      have hpos : 0 < l.length := by obtain ⟨⟨pf, g0, _⟩, _⟩ := ho; have := (List.getElem?_eq_some_iff.1 g0).1; omega
      cases a with
      | nil => have : (0 : Nat) = l.length := hl; omega
      | node => simp [ArrIn] at ha
    | some qa =>
      subst hq
      have hC := fun X => Check_ctr qa (X :: L) (fun Y => (asound_ctr (RT.node d (some qa) a u v lo hi') l (Y :: X :: L) (some qa) ho hn (show ArrIn (Y :: X :: L) (some qa) a from ha.skip.skip)))
      refine Ctr_of (fn := Tryz.f38) (n := 40) Tryz.func38 rfl rfl rfl ?_
      intro g F
      refine GN ?_
      refine G_region ?_
      refine GQ (ev_assign rfl) ?_
      refine GO_nil ?_
      refine GN ?_
      refine G_draw (.q 0 (.q 1 (.q 2 (.q 3 (.q 4 (.q 5 (.q 6 (.e 7 (.q 8 (.q 9 (.q 10 (.q 11 (.q 12 (.q 13 (.q 14 (.q 15 (.q 16 (.q 17 (.q 18 (.e 19 (.q 20 (.q 21 .nil)))))))))))))))))))))) (by kernel_rfl) (by kernel_rfl) ?_
      refine RM rfl (ev_move rfl) ?_
      (first | refine RM rfl (ev_eqlNil rfl rfl) ?_ | refine RM rfl (ev_eqlPtr rfl rfl) ?_)
      refine RM rfl (ev_move rfl) ?_
      refine RS_m_yes retB_noPanic rfl rfl rfl rfl ⟨_, rfl, rfl⟩ rfl (ev_move rfl) ?_
      (first | refine RS_m_yes retB_noPanic rfl rfl rfl rfl ⟨_, rfl, rfl⟩ rfl (ev_nilCheck rfl) ?_ | refine RS_m_yes retB_noPanic rfl rfl rfl rfl ⟨_, rfl, rfl⟩ rfl (ev_nilCheckF (by simp) rfl) ?_)
      refine RS_m_yes retB_noPanic rfl rfl rfl rfl ⟨_, rfl, rfl⟩ rfl (ev_fieldAddr rfl) ?_
      refine RS_q_yes retB_noPanic rfl rfl rfl rfl ⟨_, rfl, rfl⟩ rfl (ev_load rfl LdA) ?_
      refine RS_e (RE_eff_yes rfl rfl rfl ⟨_, rfl, rfl⟩ rfl (eff_call rfl (hI _ h.r.skip)) ?_); rintro _ _ ⟨rfl, rfl⟩; refine ⟨_, fun _ s => s, ExA, ?_⟩
      refine RS_m_yes retB_noPanic rfl rfl rfl rfl ⟨_, rfl, rfl⟩ rfl (ev_not rfl) ?_
      refine RM rfl (ev_pick_f rfl rfl rfl) ?_
      refine RM rfl (ev_move rfl) ?_
      refine RS_m_yes retB_noPanic rfl rfl rfl rfl ⟨_, rfl, rfl⟩ rfl (ev_move rfl) ?_
      (first | refine RS_m_yes retB_noPanic rfl rfl rfl rfl ⟨_, rfl, rfl⟩ rfl (ev_nilCheck rfl) ?_ | refine RS_m_yes retB_noPanic rfl rfl rfl rfl ⟨_, rfl, rfl⟩ rfl (ev_nilCheckF (by simp) rfl) ?_)
      refine RS_m_yes retB_noPanic rfl rfl rfl rfl ⟨_, rfl, rfl⟩ rfl (ev_fieldAddr rfl) ?_
      refine RS_q_yes retB_noPanic rfl rfl rfl rfl ⟨_, rfl, rfl⟩ rfl (ev_load rfl LdA) ?_
      refine RS_m_yes retB_noPanic rfl rfl rfl rfl ⟨_, rfl, rfl⟩ rfl (ev_move rfl) ?_
      (first | refine RS_m_yes retB_noPanic rfl rfl rfl rfl ⟨_, rfl, rfl⟩ rfl (ev_nilCheck rfl) ?_ | refine RS_m_yes retB_noPanic rfl rfl rfl rfl ⟨_, rfl, rfl⟩ rfl (ev_nilCheckF (by simp) rfl) ?_)
      refine RS_m_yes retB_noPanic rfl rfl rfl rfl ⟨_, rfl, rfl⟩ rfl (ev_fieldAddr rfl) ?_
      refine RS_q_yes retB_noPanic rfl rfl rfl rfl ⟨_, rfl, rfl⟩ rfl (ev_load rfl LdA) ?_
      refine RS_e (RE_eff_yes rfl rfl rfl ⟨_, rfl, rfl⟩ rfl (eff_call rfl (hs _ hin.skip h.r.skip)) ?_); rintro _ _ ⟨rfl, rfl⟩; refine ⟨_, fun _ s => s, ExA, ?_⟩
      refine RS_m_yes retB_noPanic rfl rfl rfl rfl ⟨_, rfl, rfl⟩ rfl (ev_not rfl) ?_
      refine RM rfl (ev_pick_f rfl rfl rfl) ?_
      refine RS_nil ?_
      refine GN ?_
      refine G_cond_f rfl rfl ?_
      refine GN ?_
      refine G_region ?_
      refine GQ (ev_move rfl) ?_
      (first | refine GQ (ev_nilCheck rfl) ?_ | refine GQ (ev_nilCheckF (by simp) rfl) ?_)
      refine GQ (ev_fieldAddr rfl) ?_
      refine GQ (ev_load rfl LdA) ?_
      (first | refine GQ (ev_eqlNil rfl rfl) ?_ | refine GQ (ev_eqlPtr rfl rfl) ?_)
      refine GQ (ev_move rfl) ?_
      refine GO_yes rfl rfl rfl rfl ?_
      refine GQ (ev_move rfl) ?_
      refine GO_yes rfl rfl rfl rfl ?_
      (first | refine GQ (ev_nilCheck rfl) ?_ | refine GQ (ev_nilCheckF (by simp) rfl) ?_)
      refine GO_yes rfl rfl rfl rfl ?_
      refine GQ (ev_fieldAddr rfl) ?_
      refine GO_yes rfl rfl rfl rfl ?_
      refine GQ (ev_load rfl LdA) ?_
      refine GO_yes rfl rfl rfl rfl ?_
      (first | refine GQ (ev_nilCheck rfl) ?_ | refine GQ (ev_nilCheckF (by simp) rfl) ?_)
      refine GO_yes rfl rfl rfl rfl ?_
      refine GQ (ev_fieldAddr rfl) ?_
      refine GO_yes rfl rfl rfl rfl ?_
      refine GQ (ev_load rfl LdA) ?_
      refine GO_yes rfl rfl rfl rfl ?_
      refine GE (eff_call rfl (hC F)) ?_; rintro _ _ ⟨rfl, rfl⟩
      refine GQ (ev_pick_f rfl rfl rfl) ?_
      refine GQ (ev_assign rfl) ?_
      refine GO_nil ?_
      refine GN ?_
      refine G_ret rfl (.tmp rfl .nil) EnA ⟨rfl, rfl⟩
end Go.Proofs.YtkoncepjfgnjlaaGreat
/- Points in several trees: Check. -/
namespace Go.Proofs.YtkoncepjfgnjlaaGreat
attribute [local irreducible] sat
open Go.RowKit
set_option linter.unusedVariables false
set_option linter.unusedSimpArgs false
set_option maxRecDepth 100000

theorem oCheck_ctr (o : Option RTr) (L : List HP) (h : oat L o) (hn : (opts o).length ≤ 100000) (h0 : (opts o).length ≠ 0) : Ctr Tryz.prog 38 #[.pointer (oaddr o)] L fun v L' => v = .bool true ∧ L' = L := by
  cases o with
  | none => exact absurd rfl h0
  | some x => exact tCheck_ctr (h x rfl) hn
theorem JCheck_ctr {x : LgX} {S : LgS} {s m : Nat} {most : Int} {L : List HP} (hx : LgJ x S) (ok : LgOk S m) (hm : m ≤ 300) (h : LdN L s 0 5 (lsC x.A x.ts.length x.c x.b (S.d.length : Nat) most (S.bu : Nat))) (hr : Rd L x.A x.ts.length x.ts) (ht : ∀ o ∈ x.ts, oat L o) :
    Ctr Tryz.prog 11 #[.pointer (some ⟨s, 0, none⟩)] (mpH x.b x.M :: L) fun v L' => v = .bool true ∧ L' = mpH x.b x.M :: L := by
  have hll := ok.live_len
  have htot := ok.tot
  have hfew := ok.few
  have hn10 := ok.ll (by omega)
  have hlen := hx.cor.len
  have hml := hx.mp.len
  have hol := hx.toLgI.oLen ok.tot
  have hfp := hx.cor.flat
  have hnd : (x.ts.flatMap opts).Nodup := hfp.nodup_iff.2 ok.nd
  have hlive := fun M h1 h2 => JLive_ctr (s := s) (most := most) (L := M) hx h1 h2 hll (by omega)
  have hkn := fun M h1 h2 p => JKnown_ctr (s := s) (most := most) (L := M) hx h1 h2 p ok.nd
  have hsz : ∀ k o, x.ts[k]? = some o → (opts o).length = 0 ∨ (opts o).length = 1 * 2 ^ k := fun k o e => by
    obtain ⟨l, e1, e2⟩ := hx.cor.at_ e
    have := ok.sz.at_ e1
    rw [Nat.zero_add] at this
    rw [e2, srtO_length]; omega
  have hdd : (dds x.M).length = S.d.length := hx.mp.d.length_eq
  have hcol := fun b1 L h1 h2 => colDead_ctr b1 s x.b x.ts.length x.c x.A (S.d.length : Nat) most (S.bu : Nat) x.M L h1 h2 (by omega)
  have l0 : Ld L ⟨s, 0 + 0, none⟩ (.slice x.A x.ts.length x.c) := h.at_ (i := 0) rfl
  have l1 : Ld L ⟨s, 0 + 1, none⟩ (.map (some x.b)) := h.at_ (i := 1) rfl
  have l2 : Ld L ⟨s, 0 + 2, none⟩ (.int .i64 (S.d.length : Nat)) := h.at_ (i := 2) rfl
  have hmem : ∀ p, p ∈ S.ls.flatten ↔ p ∈ x.ts.flatMap opts := fun p => hfp.mem_iff.symm
  have hfl : (x.ts.flatMap opts).length = S.ls.flatten.length := hfp.length_eq
  clear hfp
  generalize hts : x.ts = ts at *
  obtain ⟨n, hn⟩ : ∃ n, ts.length = n := ⟨_, rfl⟩
  rw [hn] at h hr l0 hlive hkn hcol hlen
  refine Ctr_of (fn := Tryz.f11) (n := 92) Tryz.func11 rfl rfl rfl ?_
  intro g F
  refine GN ?_
  refine G_region ?_
  refine GE (eff_box rfl) ?_; rintro _ _ ⟨b1, rfl, rfl⟩
  refine GQ (ev_assign rfl) ?_
  refine GO_nil ?_
  refine GN ?_
  refine G_draw (.q 0 (.q 1 (.q 2 (.q 3 (.q 4 (.q 5 (.q 6 (.q 7 (.e 8 (.q 9 (.q 10 .nil))))))))))) (by kernel_rfl) (by kernel_rfl) ?_
  refine RQ rfl (ev_load rfl LdA) ?_
  (first | refine RM rfl (ev_eqlNil rfl rfl) ?_ | refine RM rfl (ev_eqlPtr rfl rfl) ?_)
  refine RM rfl (ev_move rfl) ?_
  refine RS_q_yes retB_noPanic rfl rfl rfl rfl ⟨_, rfl, rfl⟩ rfl (ev_load rfl LdA) ?_
  (first | refine RS_m_yes retB_noPanic rfl rfl rfl rfl ⟨_, rfl, rfl⟩ rfl (ev_nilCheck rfl) ?_ | refine RS_m_yes retB_noPanic rfl rfl rfl rfl ⟨_, rfl, rfl⟩ rfl (ev_nilCheckF (by simp) rfl) ?_)
  refine RS_m_yes retB_noPanic rfl rfl rfl rfl ⟨_, rfl, rfl⟩ rfl (ev_fieldAddr rfl) ?_
  refine RS_q_yes retB_noPanic rfl rfl rfl rfl ⟨_, rfl, rfl⟩ rfl (ev_load rfl LdA) ?_
  refine RS_q_yes retB_noPanic rfl rfl rfl rfl ⟨_, rfl, rfl⟩ rfl (ev_load rfl LdA) ?_
  refine RS_e (RE_eff_yes rfl rfl rfl ⟨_, rfl, rfl⟩ rfl (eff_call rfl (hlive _ LnA (by repeat' first | exact Mp.here | apply Mp.skip))) ?_); rintro _ _ ⟨rfl, rfl⟩; refine ⟨_, fun _ s => s, ExA, ?_⟩
  refine RS_m_yes retB_noPanic rfl rfl rfl rfl ⟨_, rfl, rfl⟩ rfl (ev_gtr rfl rfl) ?_
  refine RM rfl (ev_pick_f rfl rfl rfl) ?_
  refine RS_nil ?_
  refine GN ?_
  refine G_cond_f rfl (decide_eq_false (by omega)) ?_
  refine GN ?_
  refine GN ?_
  refine G_region ?_
  refine GE eff_makeMap ?_; rintro _ _ ⟨b23, rfl, rfl⟩
  refine GQ (ev_assign rfl) ?_
  refine GO_nil ?_
  refine GN ?_
  refine G_region ?_
  refine GQ (ev_load rfl LdA) ?_
  (first | refine GQ (ev_nilCheck rfl) ?_ | refine GQ (ev_nilCheckF (by simp) rfl) ?_)
  refine GQ (ev_fieldAddr rfl) ?_
  refine GQ (ev_load rfl LdA) ?_
  refine GQ (ev_len rfl) ?_
  refine GQ (ev_move rfl) ?_
  refine GO_nil ?_
  refine GN ?_
  refine G_loop (ι := Nat × List (Pt × Bool)) (fun y => [(1, .pointer (some ⟨b1, 0, none⟩)), (3, .map (some b23)), (27, .slice x.A n x.c), (28, .int .i64 (n : Nat)), (29, .int .i64 (y.1 : Nat))]) (fun y => mpH b23 y.2 :: mpH x.b x.M :: blk b1 22 [.pointer (some ⟨s, 0, none⟩)] :: F :: L)
    (fun y => y.1 ≤ n ∧ (keyM y.2).Perm ((ts.take y.1).flatMap opts)) (fun y => n - y.1) (0, []) ⟨Nat.zero_le _, .refl _⟩ ⟨rfl, rfl, rfl, rfl, rfl, trivial⟩ EpA ?_
  rintro ⟨k, M9⟩ ⟨f1, f2⟩
  simp only at f1 f2
  dsimp only
  refine GN ?_
  refine G_region ?_
  (first | refine GQ (ev_lssN rfl rfl) ?_ | refine GQ (ev_lss rfl rfl) ?_)
  refine GO_nil ?_
  refine GN ?_
  refine G_cond rfl (fun c1 => ?_) (fun c1 => ?_)
  · obtain ⟨lb, lo, eA, hxx⟩ := hr.at_ (by omega)
    rw [eA]
    have g1 : ts[k]? = some ts[k] := List.getElem?_eq_getElem (by omega)
    have y1 := (hxx _ _ g1).at_ (i := 0) rfl
    have s1 : (ts.take (k + 1)).flatMap opts = (ts.take k).flatMap opts ++ opts ts[k] := by
      rw [List.take_succ_eq_append_getElem (by omega), List.flatMap_append, List.flatMap_cons, List.flatMap_nil, List.append_nil]
    have o1 := ht ts[k] (List.getElem_mem _)
    have o2 := hol ts[k] (List.getElem_mem _)
    have o3 := hsz k _ g1
    have o4 : ((ts.take k).flatMap opts ++ opts ts[k]).Sublist (ts.flatMap opts) := by
      rw [← s1]
      conv => rhs; rw [← List.take_append_drop (k + 1) ts]
      rw [List.flatMap_append]; exact List.sublist_append_left _ _
    generalize ts[k] = o at *
    have z1 : Ld L ⟨lb, lo + k * 1, none⟩ (.pointer (oaddr o)) := y1
    have hL := fun M hM => oLen_ctr o M hM
    have hP := fun M hM => oPoints_ctr o M hM (by omega)
    refine GN ?_
    refine G_region ?_
    refine GQ (ev_move rfl) ?_
    (first | refine GQ (ev_indexAddrN rfl rfl NgA) ?_ | refine GQ (ev_indexAddr rfl rfl NgA NgA) ?_)
    refine GQ (ev_load rfl LdA) ?_
    refine GQ (ev_assign rfl) ?_
    refine GQ (ev_assign rfl) ?_
    refine GO_nil ?_
    refine GN ?_
    refine G_region ?_
    refine GQ (ev_move rfl) ?_
    refine GE (eff_call rfl (hL _ (by repeat' first | exact o1 | apply oat.skip))) ?_; rintro _ _ ⟨rfl, rfl⟩
    refine GQ (ev_assign rfl) ?_
    refine GO_nil ?_
    have hC := fun M hM => oCheck_ctr o M hM (by omega)
    by_cases c2 : (opts o).length = 0
    case' pos =>
      refine GN ?_
      refine G_region ?_
      refine GQ (ev_move rfl) ?_
      refine GQ (ev_neq rfl rfl) ?_
      refine GQ (ev_move rfl) ?_
      refine GO_no rfl rfl rfl (by simp [c2]) ?_
      refine GO_no rfl rfl rfl (by simp [c2]) ?_
      refine GO_no rfl rfl rfl (by simp [c2]) ?_
      refine GO_no rfl rfl rfl (by simp [c2]) ?_
      refine GO_no rfl rfl rfl (by simp [c2]) ?_
      refine GO_undef rfl rfl rfl ?_
      refine GO_undef rfl rfl rfl ?_
      refine GO_undef rfl rfl rfl ?_
      refine GO_no rfl rfl rfl (by simp [c2]) ?_
      refine GQ (ev_pick_f rfl (by simp [c2]) rfl) ?_
      refine GO_nil ?_
      refine GN ?_
      refine G_cond_f rfl rfl ?_
    case' neg =>
      have o5 : (opts o).length = 1 * 2 ^ k := by omega
      replace hC := fun M (hM : oat M o) => hC M hM c2
      refine GN ?_
      refine G_region ?_
      refine GQ (ev_move rfl) ?_
      refine GQ (ev_neq rfl rfl) ?_
      refine GQ (ev_move rfl) ?_
      refine GO_yes rfl rfl rfl (decide_eq_true (by omega)) ?_
      refine GQ (ev_move rfl) ?_
      refine GO_yes rfl rfl rfl (decide_eq_true (by omega)) ?_
      refine GQ (ev_move rfl) ?_
      refine GO_yes rfl rfl rfl (decide_eq_true (by omega)) ?_
      refine GQ (ev_shlN (p := 1) rfl rfl (by omega) (by omega)) ?_
      refine GO_yes rfl rfl rfl (decide_eq_true (by omega)) ?_
      refine GQ (ev_neq rfl rfl) ?_
      refine GO_yes rfl rfl rfl (decide_eq_true (by omega)) ?_
      refine GQ (ev_move rfl) ?_
      refine GO_yes rfl rfl rfl (by simp [o5]) ?_
      refine GQ (ev_move rfl) ?_
      refine GO_yes rfl rfl rfl (by simp [o5]) ?_
      refine GE (eff_call rfl (hC _ (by repeat' first | exact o1 | apply oat.skip))) ?_; rintro _ _ ⟨rfl, rfl⟩
      refine GO_yes rfl rfl rfl (by simp [o5]) ?_
      refine GQ (ev_not rfl) ?_
      refine GO_yes rfl rfl rfl (decide_eq_true (by omega)) ?_
      refine GQ (ev_pick_f rfl (by simp [o5]) rfl) ?_
      refine GQ (ev_pick_t rfl (decide_eq_true (by omega)) rfl) ?_
      refine GO_nil ?_
      refine GN ?_
      refine G_cond_f rfl rfl ?_
    all_goals
      clear hC
      refine GN ?_
      refine G_region ?_
      refine GQ (ev_move rfl) ?_
      refine GE (eff_call rfl (hP _ (by repeat' first | exact o1 | apply oat.skip))) ?_; rintro _ _ ⟨Q, qc, rfl, hQ, rfl⟩
      refine GQ (ev_len rfl) ?_
      refine GQ (ev_move rfl) ?_
      refine GO_nil ?_
      refine GN ?_
      refine G_loop (ι := Nat × List (Pt × Bool)) (fun y => [(1, .pointer (some ⟨b1, 0, none⟩)), (3, .map (some b23)), (27, .slice (some ⟨lb, lo, none⟩) n x.c), (28, .int .i64 (n : Nat)), (29, .int .i64 (k : Nat)), (50, .slice Q (opts o).length qc), (51, .int .i64 ((opts o).length : Nat)), (52, .int .i64 (y.1 : Nat))]) (fun y => mpH b23 y.2 :: mpH x.b x.M :: own 28 3 Q (opts o).length qc (flat (opts o)) :: blk b1 22 [.pointer (some ⟨s, 0, none⟩)] :: F :: L)
        (fun y => y.1 ≤ (opts o).length ∧ (keyM y.2).Perm ((ts.take k).flatMap opts ++ (opts o).take y.1)) (fun y => (opts o).length - y.1) (0, M9) ⟨Nat.zero_le _, by simpa using f2⟩ ⟨rfl, rfl, rfl, rfl, rfl, rfl, rfl, rfl, trivial⟩ EpA ?_
      rintro ⟨j, M8⟩ ⟨i1, i2⟩
      simp only at i1 i2
      dsimp only
      refine GN ?_
      refine G_region ?_
      (first | refine GQ (ev_lssN rfl rfl) ?_ | refine GQ (ev_lss rfl rfl) ?_)
      refine GO_nil ?_
      refine GN ?_
      refine G_cond rfl (fun c3 => ?_) (fun c3 => ?_)
      · obtain ⟨qb, rfl⟩ := hQ (by omega)
        have j1 : (opts o)[j]? = some (opts o)[j] := List.getElem?_eq_getElem (by omega)
        have j2 : (opts o).take (j + 1) = (opts o).take j ++ [(opts o)[j]] := List.take_succ_eq_append_getElem (by omega)
        have w1 : ∀ X, LdN (own 28 3 (some ⟨qb, 0, none⟩) (opts o).length qc (flat (opts o)) :: X) qb (0 + j * 3) 3 [.int .i64 (opts o)[j].id, .int .i64 (opts o)[j].x, .int .i64 (opts o)[j].y] := fun X => ld_ownP rfl j1 X
        have j3 : ((ts.take k).flatMap opts ++ (opts o).take j ++ [(opts o)[j]]).Sublist (ts.flatMap opts) := by
          rw [List.append_assoc, ← j2]
          exact ((List.Sublist.refl _).append (List.take_sublist _ _)).trans o4
        generalize (opts o)[j] = p at *
        have hpf : p ∈ S.ls.flatten := (hmem p).2 (j3.subset (by simp))
        have hpn : p ∉ keyM M8 := fun hm => by
          have := j3.nodup hnd
          rw [List.nodup_append] at this
          exact this.2.2 p (i2.mem_iff.1 hm) p (by simp) rfl
        have hg0 : (getM p M8).getD false = false := by rw [getM_none.2 hpn]; rfl
        have hkp := fun M h1 h2 => hkn M h1 h2 p
        rw [decide_eq_true hpf] at hkp
        refine GN ?_
        refine G_region ?_
        (first | refine GQ (ev_indexAddrN rfl rfl NgA) ?_ | refine GQ (ev_indexAddr rfl rfl NgA NgA) ?_)
        refine GQ (ev_loadN rfl (by repeat' first | exact w1 _ | apply LdN.skip)) ?_
        refine GE eff_alloc ?_; rintro _ _ ⟨b8, rfl, rfl⟩
        refine GE (eff_storeN rfl rfl rfl rfl UpA) ?_; rintro _ _ ⟨rfl, rfl⟩
        refine GO_nil ?_
        refine GN ?_
        refine G_region ?_
        refine GQ (ev_load rfl LdA) ?_
        refine GQ (ev_loadN rfl LnA) ?_
        refine GE (eff_call rfl (hkp _ (by repeat' first | exact LdN.blk rfl | assumption | apply LdN.skip) (by repeat' first | exact Mp.here | apply Mp.skip))) ?_; rintro _ _ ⟨rfl, rfl⟩
        refine GQ (ev_move rfl) ?_
        refine GQ (ev_extract rfl rfl) ?_
        refine GQ (ev_extract rfl rfl) ?_
        refine GQ (ev_assign rfl) ?_
        refine GQ (ev_assign rfl) ?_
        refine GO_nil ?_
        refine GN ?_
        refine G_region ?_
        refine GQ (ev_move rfl) ?_
        refine GQ (ev_not rfl) ?_
        refine GQ (ev_move rfl) ?_
        refine GO_yes rfl rfl rfl rfl ?_
        refine GQ (ev_move rfl) ?_
        refine GO_yes rfl rfl rfl rfl ?_
        refine GQ (ev_loadN rfl LnA) ?_
        refine GO_yes rfl rfl rfl rfl ?_
        refine GQ (ev_lookup1 (p := p) rfl rfl (by repeat' first | exact Mp.here | apply Mp.skip)) ?_
        refine GQ (ev_pick_f rfl rfl rfl) ?_
        refine GO_nil ?_
        rw [hg0]
        refine GN ?_
        refine G_cond_f rfl rfl ?_
        refine GN ?_
        refine G_region ?_
        refine GQ (ev_move rfl) ?_
        refine GQ (ev_loadN rfl LnA) ?_
        refine GE (eff_mapUpdate rfl rfl rfl PkA) ?_; rintro _ _ ⟨rfl, rfl⟩
        refine GO_nil ?_
        refine GN ?_
        refine G_region ?_
        (first | refine GQ (ev_addN (q := 1) rfl rfl NgA) ?_ | refine GQ (ev_add rfl rfl NgA) ?_)
        refine GQ (ev_move rfl) ?_
        refine GO_nil ?_
        refine GN ?_
        refine G_round (j + 1, putM p true M8) ⟨by simp only; omega, ?_⟩ (by simp only; omega) ⟨rfl, rfl, rfl, rfl, rfl, rfl, rfl, rfl, trivial⟩ EpA
        simp only
        rw [putM_new hpn, keyM_app, j2, ← List.append_assoc]
        exact i2.append_right _
      · have e : j = (opts o).length := by omega
        subst e
        rw [List.take_length, ← s1] at i2
        refine GN ?_
        refine G_region ?_
        (first | refine GQ (ev_addN (q := 1) rfl rfl NgA) ?_ | refine GQ (ev_add rfl rfl NgA) ?_)
        refine GQ (ev_move rfl) ?_
        refine GO_nil ?_
        refine GN ?_
        exact G_round (k + 1, M8) ⟨by simp only; omega, i2⟩ (by simp only; omega) ⟨rfl, rfl, rfl, rfl, rfl, trivial⟩ EpA
  · have e : k = n := by omega
    subst e
    rw [List.take_of_length_le (by omega)] at f2
    have hk9 : M9.length = x.M.length := by
      have := f2.length_eq
      rw [keyM, List.length_map] at this
      omega
    refine GN ?_
    refine G_region ?_
    refine GQ (ev_makeFunc rfl rfl) ?_
    refine GE (eff_call rfl (Ctr.pick PkA (hcol b1 _ LdA (by repeat' first | exact h | apply LdN.skip)))) ?_; rintro _ _ ⟨o, B, e, rfl, ho, rfl⟩
    refine GQ (ev_assign rfl) ?_
    refine GO_nil ?_
    have hol : o.length = S.d.length := ho.length_eq.trans hdd
    refine GN ?_
    refine G_draw (.q 0 (.q 1 (.q 2 (.q 3 (.q 4 (.q 5 (.q 6 (.q 7 (.q 8 (.q 9 (.q 10 (.q 11 (.q 12 (.q 13 (.q 14 (.q 15 (.q 16 (.q 17 .nil)))))))))))))))))) (by kernel_rfl) (by kernel_rfl) ?_
    refine RM rfl (ev_move rfl) ?_
    refine RQ rfl (ev_lenM rfl (by repeat' first | exact Mp.here | exact Mp.rg | apply Mp.skip)) ?_
    refine RQ rfl (ev_load rfl LdA) ?_
    (first | refine RM rfl (ev_nilCheck rfl) ?_ | refine RM rfl (ev_nilCheckF (by simp) rfl) ?_)
    refine RM rfl (ev_fieldAddr rfl) ?_
    refine RQ rfl (ev_load rfl LdA) ?_
    refine RQ rfl (ev_lenM rfl (by repeat' first | exact Mp.here | exact Mp.rg | apply Mp.skip)) ?_
    refine RM rfl (ev_eql rfl rfl) ?_
    refine RM rfl (ev_move rfl) ?_
    refine RS_m_yes retB_noPanic rfl rfl rfl rfl ⟨_, rfl, (decide_eq_true (by rw [hk9]))⟩ rfl (ev_move rfl) ?_
    refine RS_q_yes retB_noPanic rfl rfl rfl rfl ⟨_, rfl, (decide_eq_true (by rw [hk9]))⟩ rfl (ev_len rfl) ?_
    refine RS_q_yes retB_noPanic rfl rfl rfl rfl ⟨_, rfl, (decide_eq_true (by rw [hk9]))⟩ rfl (ev_load rfl LdA) ?_
    (first | refine RS_m_yes retB_noPanic rfl rfl rfl rfl ⟨_, rfl, (decide_eq_true (by rw [hk9]))⟩ rfl (ev_nilCheck rfl) ?_ | refine RS_m_yes retB_noPanic rfl rfl rfl rfl ⟨_, rfl, (decide_eq_true (by rw [hk9]))⟩ rfl (ev_nilCheckF (by simp) rfl) ?_)
    refine RS_m_yes retB_noPanic rfl rfl rfl rfl ⟨_, rfl, (decide_eq_true (by rw [hk9]))⟩ rfl (ev_fieldAddr rfl) ?_
    refine RS_q_yes retB_noPanic rfl rfl rfl rfl ⟨_, rfl, (decide_eq_true (by rw [hk9]))⟩ rfl (ev_load rfl LdA) ?_
    refine RS_m_yes retB_noPanic rfl rfl rfl rfl ⟨_, rfl, (decide_eq_true (by rw [hk9]))⟩ rfl (ev_eql rfl rfl) ?_
    refine RM rfl (ev_pick_t rfl (decide_eq_true (by rw [hk9])) rfl) ?_
    refine RM rfl (ev_assign rfl) ?_
    refine RS_nil ?_
    refine GN ?_
    refine G_ret (L' := mpH x.b x.M :: L) rfl (.tmp rfl .nil) EpA ⟨?_, rfl⟩
    simp [retv, hol]
end Go.Proofs.YtkoncepjfgnjlaaGreat
/- Points in several trees: what an open set tells of a box; a new one; that three points live in two trees. -/
namespace Go.Proofs.YtkoncepjfgnjlaaGreat
attribute [local irreducible] sat
open Go.RowKit
set_option linter.unusedVariables false
set_option linter.unusedSectionVars false
set_option linter.unusedSimpArgs false
set_option maxRecDepth 100000

theorem idsB_len (w : Bx) (l : List Pt) : (idsB w l).length = (l.filter (inB w)).length := by
  rw [idsB, (srt_perm _).length_eq, List.length_map]
section
variable {x : LgX} {S : LgS} {s m : Nat} {most : Int} {L : List HP} (hx : LgJ x S) (ok : LgOk S m) (hm : m ≤ 300) (h : LdN L s 0 5 (lsC x.A x.ts.length x.c x.b (S.d.length : Nat) most (S.bu : Nat)))
include hx ok hm h
theorem JDead_ctr (w : Bx) : Ctr Tryz.prog 18 #[.pointer (some ⟨s, 0, none⟩), w.v] (mpH x.b x.M :: L) fun v L' => Made 3 (idsB w S.d) (mpH x.b x.M :: L) v L' := by
  have htot := ok.tot
  have hml := hx.mp.len
  have := lgDead_ctr s x.b x.ts.length x.c x.A most S.bu S.d.length w x.M L h (by omega)
  rwa [hx.dead w] at this
variable (hr : Rd L x.A x.ts.length x.ts) (ht : ∀ o ∈ x.ts, oat L o)
include hr ht
theorem JCount_ctr (w : Bx) : Ctr Tryz.prog 24 #[.pointer (some ⟨s, 0, none⟩), w.v] (mpH x.b x.M :: L) fun v L' => v = .int .i64 ((idsB w S.live).length : Nat) ∧ L' = mpH x.b x.M :: L := by
  have htot := ok.tot
  have hml := hx.mp.len
  have hl := ok.ll (by omega)
  have hlen := hx.cor.len
  have hol := hx.toLgI.oLen ok.tot
  have := lgCount_ctr s x.b x.ts.length x.c x.A most S.bu S.d.length w x.ts x.M L h hr ht (by omega) (by omega) (fun o ho => by have := hol o ho; omega)
  rwa [hx.toLgI.count ok.nd w] at this
end
theorem lgNewF_ctr (most : Int) (L : List HP) (h1 : 1 ≤ most) (h2 : most ≤ 1048576) : Ctr Tryz.prog 8 #[.int .i64 most] L fun v L' => ∃ s, v = .tuple #[.pointer (some ⟨s, 0, none⟩), .int .i64 0] ∧ L' = lgF s most ⟨[], [], 0⟩ :: L :=
  (lgNew_ctr most L h1 h2).post' fun v L' hm ⟨s, b, e1, e2⟩ hs => by
    subst e2
    refine ⟨_, ⟨s, e1, rfl⟩, ?_⟩
    have hz : LgI ⟨none, 0, b, [], [], []⟩ ⟨[], [], 0⟩ := ⟨rfl, by simp, ⟨.refl _, .refl _⟩, fun h => absurd h (Nat.lt_irrefl 0)⟩
    refine en_lg ⟨none, 0, b, [], [], []⟩ rfl (gone := 0) (built := 0) rfl rfl rfl hz (fun h s => ?_) hm hs
    exact sat.cons_mono (fun _ s => sat.cons_mono (fun _ s => own.nil_ 63 1 _ (en_pk0 en_refl _ s)) s) s
theorem ins_put {S : LgS} {m : Nat} {most : Int} {p : Pt} (ok : LgOk S m) (h1 : goodP p = true) (h2 : p ∉ S.ls.flatten) (h3 : ((S.ls.flatten.length - S.d.length : Nat) : Int) < most) : insC most S.live p = 0 ∧ S.ins most p = S.put p := by
  have hl := ok.live_len
  have h4 : p ∉ S.live := fun h => h2 (LgS.mem_live.1 h).1
  have h5 : p ∉ S.d := fun h => h2 (ok.ds p h)
  have e : insC most S.live p = 0 := by
    unfold insC
    rw [if_neg (by rw [h1]; decide), if_neg h4, if_neg (by omega)]
  exact ⟨e, by unfold LgS.ins; rw [if_pos e, if_neg h5]⟩
theorem LgOk.insP {S : LgS} {m : Nat} {p : Pt} (ok : LgOk S m) (hm : m ≤ 300) (h1 : goodP p = true) (h2 : p ∉ S.ls.flatten) : LgOk (S.put p) (m + 1) := ok.put h2 h1 hm
def lv0 : LgS := ⟨[], [], 0⟩
def lv1 : LgS := ⟨[[⟨1, 0, 0⟩]], [], 1⟩
def lv2 : LgS := ⟨[[], [⟨2, 3, 0⟩, ⟨1, 0, 0⟩]], [], 3⟩
def lv3 : LgS := ⟨[[⟨3, 5, 0⟩], [⟨2, 3, 0⟩, ⟨1, 0, 0⟩]], [], 4⟩
theorem lv3_ids : (idsB ⟨0, 3, 0, 0⟩ lv3.live).length = 2 := by
  have h : lv3.live.Perm (lv3.ls.flatten.filter fun p => !decide (p ∈ lv3.d)) := srtO_perm _
  rw [idsB_len, (h.filter _).length_eq]
  decide
theorem lv3_sz : trimZ (szL lv3.ls) = [1, 2] := by decide
theorem lives19_ctr (L : List HP) : Ctr Tryz.prog 13 #[] L fun v L' => v = .bool true ∧ ∃ X, L' = X ++ L := by
  have k0 : LgOk lv0 0 := LgOk.zero
  have k1 : LgOk lv1 1 := k0.insP (p := ⟨1, 0, 0⟩) (by decide) (by decide) (by decide)
  have k2 : LgOk lv2 2 := k1.insP (p := ⟨2, 3, 0⟩) (by decide) (by decide) (by decide)
  have k3 : LgOk lv3 3 := k2.insP (p := ⟨3, 5, 0⟩) (by decide) (by decide) (by decide)
  have i1 := fun s M => LgInsert_ctr s 5 lv0 ⟨1, 0, 0⟩ 0 M k0 (by decide)
  have i2 := fun s M => LgInsert_ctr s 5 lv1 ⟨2, 3, 0⟩ 1 M k1 (by decide)
  have i3 := fun s M => LgInsert_ctr s 5 lv2 ⟨3, 5, 0⟩ 2 M k2 (by decide)
  obtain ⟨a1, b1⟩ := ins_put (most := 5) (p := ⟨1, 0, 0⟩) k0 (by decide) (by decide) (by decide)
  obtain ⟨a2, b2⟩ := ins_put (most := 5) (p := ⟨2, 3, 0⟩) k1 (by decide) (by decide) (by decide)
  obtain ⟨a3, b3⟩ := ins_put (most := 5) (p := ⟨3, 5, 0⟩) k2 (by decide) (by decide) (by decide)
  rw [show lv0.put ⟨1, 0, 0⟩ = lv1 from rfl] at b1
  rw [show lv1.put ⟨2, 3, 0⟩ = lv2 from rfl] at b2
  rw [show lv2.put ⟨3, 5, 0⟩ = lv3 from rfl] at b3
  rw [a1, b1] at i1
  rw [a2, b2] at i2
  rw [a3, b3] at i3
  refine Ctr_of (fn := Tryz.f13) (n := 63) Tryz.func13 rfl rfl rfl ?_
  intro g F
  refine GN ?_
  refine G_region ?_
  refine GQ (ev_assign rfl) ?_
  refine GO_nil ?_
  refine GN ?_
  refine G_region ?_
  refine GE (eff_call rfl (lgNewF_ctr 5 _ (by decide) (by decide))) ?_; rintro _ _ ⟨s, rfl, rfl⟩
  refine GQ (ev_move rfl) ?_
  refine GQ (ev_extract rfl rfl) ?_
  refine GQ (ev_extract rfl rfl) ?_
  refine GQ (ev_assign rfl) ?_
  refine GQ (ev_assign rfl) ?_
  refine GO_nil ?_
  refine GN ?_
  refine G_region ?_
  refine GQ (ev_move rfl) ?_
  refine GQ (ev_build rfl rfl) ?_
  refine GE (eff_call rfl (Ctr.pick PkA (i1 s _))) ?_; rintro _ _ ⟨rfl, rfl⟩
  refine GQ (ev_assign rfl) ?_
  refine GO_nil ?_
  refine GN ?_
  refine G_region ?_
  refine GQ (ev_move rfl) ?_
  refine GQ (ev_build rfl rfl) ?_
  refine GE (eff_call rfl (Ctr.pick PkA (i2 s _))) ?_; rintro _ _ ⟨rfl, rfl⟩
  refine GQ (ev_assign rfl) ?_
  refine GO_nil ?_
  refine GN ?_
  refine G_region ?_
  refine GQ (ev_move rfl) ?_
  refine GQ (ev_build rfl rfl) ?_
  refine GE (eff_call rfl (Ctr.pick PkA (i3 s _))) ?_; rintro _ _ ⟨rfl, rfl⟩
  refine GQ (ev_assign rfl) ?_
  refine GO_nil ?_
  refine G_lg fun x hx => ?_
  have hlen := hx.cor.len
  have hl2 : x.ts.length = 2 := hlen
  have hsz := fun M h hr ht => JSizes_ctr (s := s) (most := 5) (L := M) hx h hr ht (by omega) (fun o ho => by have := hx.toLgI.oLen k3.tot o ho; omega)
  have hco := fun M h hr ht => JCount_ctr (s := s) (most := 5) (L := M) hx k3 (by decide) h hr ht ⟨0, 3, 0, 0⟩
  have hck := fun M h hr ht => JCheck_ctr (s := s) (most := 5) (L := M) hx k3 (by decide) h hr ht
  rw [lv3_sz] at hsz
  rw [lv3_ids] at hco
  refine GN ?_
  refine G_region ?_
  refine GQ (ev_move rfl) ?_
  refine GE (eff_call rfl (hsz _ (by repeat' first | exact LdN.blk rfl | apply LdN.skip) (by repeat' first | exact Rc.own (flat_length _) hx.A | apply Rd.skip) (fun o ho => by repeat' first | exact hx.ats o ho | apply oat.skip))) ?_; rintro _ _ ⟨Y, A, c, rfl, q1, q2, q3, rfl⟩
  refine GQ (ev_assign rfl) ?_
  refine GO_nil ?_
  have q4 : ∀ X, Rd (Y :: X) A 2 [(1 : Int), 2] := q3
  obtain ⟨lb, lo, rfl, hxx⟩ := (q4 []).at_ (by decide)
  have y0 : ∀ X, Ld (Y :: X) ⟨lb, lo + 0 * 1, none⟩ (.int .i64 1) := fun X => by
    obtain ⟨_, _, e9, hxx⟩ := (q4 X).at_ (by decide)
    cases e9
    exact (hxx 0 1 rfl).at_ (i := 0) rfl
  have y1 : ∀ X, Ld (Y :: X) ⟨lb, lo + 1 * 1, none⟩ (.int .i64 2) := fun X => by
    obtain ⟨_, _, e9, hxx⟩ := (q4 X).at_ (by decide)
    cases e9
    exact (hxx 1 2 rfl).at_ (i := 0) rfl
  refine GN ?_
  refine G_region ?_
  refine GQ (ev_move rfl) ?_
  refine GQ (ev_eql rfl rfl) ?_
  refine GQ (ev_move rfl) ?_
  refine GO_yes rfl rfl rfl rfl ?_
  refine GQ (ev_move rfl) ?_
  refine GO_yes rfl rfl rfl rfl ?_
  refine GQ (ev_eql rfl rfl) ?_
  refine GQ (ev_pick_t rfl rfl rfl) ?_
  refine GQ (ev_move rfl) ?_
  refine GO_yes rfl rfl rfl rfl ?_
  refine GQ (ev_move rfl) ?_
  refine GO_yes rfl rfl rfl rfl ?_
  refine GQ (ev_eql rfl rfl) ?_
  refine GQ (ev_pick_t rfl rfl rfl) ?_
  refine GQ (ev_move rfl) ?_
  refine GO_yes rfl rfl rfl rfl ?_
  refine GQ (ev_move rfl) ?_
  refine GO_yes rfl rfl rfl rfl ?_
  refine GQ (ev_eql rfl rfl) ?_
  refine GQ (ev_pick_t rfl rfl rfl) ?_
  refine GQ (ev_move rfl) ?_
  refine GO_yes rfl rfl rfl rfl ?_
  refine GQ (ev_move rfl) ?_
  refine GO_yes rfl rfl rfl rfl ?_
  refine GQ (ev_len rfl) ?_
  refine GO_yes rfl rfl rfl rfl ?_
  refine GQ (ev_eql rfl rfl) ?_
  refine GQ (ev_pick_t rfl rfl rfl) ?_
  refine GQ (ev_move rfl) ?_
  refine GO_yes rfl rfl rfl rfl ?_
  refine GQ (ev_move rfl) ?_
  refine GO_yes rfl rfl rfl rfl ?_
  (first | refine GQ (ev_indexAddrN rfl rfl NgA) ?_ | refine GQ (ev_indexAddr rfl rfl NgA NgA) ?_)
  refine GO_yes rfl rfl rfl rfl ?_
  refine GQ (ev_load rfl (by repeat' first | exact y0 _ | apply Ld.skip)) ?_
  refine GO_yes rfl rfl rfl rfl ?_
  refine GQ (ev_eql rfl rfl) ?_
  refine GQ (ev_pick_t rfl rfl rfl) ?_
  refine GQ (ev_move rfl) ?_
  refine GO_yes rfl rfl rfl rfl ?_
  refine GQ (ev_move rfl) ?_
  refine GO_yes rfl rfl rfl rfl ?_
  (first | refine GQ (ev_indexAddrN rfl rfl NgA) ?_ | refine GQ (ev_indexAddr rfl rfl NgA NgA) ?_)
  refine GO_yes rfl rfl rfl rfl ?_
  refine GQ (ev_load rfl (by repeat' first | exact y1 _ | apply Ld.skip)) ?_
  refine GO_yes rfl rfl rfl rfl ?_
  refine GQ (ev_eql rfl rfl) ?_
  refine GQ (ev_pick_t rfl rfl rfl) ?_
  refine GQ (ev_move rfl) ?_
  refine GO_yes rfl rfl rfl rfl ?_
  refine GQ (ev_move rfl) ?_
  refine GO_yes rfl rfl rfl rfl ?_
  refine GQ (ev_build rfl rfl) ?_
  refine GO_yes rfl rfl rfl rfl ?_
  refine GE (eff_call rfl (Ctr.pick PkA (hco _ (by repeat' first | exact LdN.blk rfl | apply LdN.skip) (by repeat' first | exact Rc.own (flat_length _) hx.A | apply Rd.skip) (fun o ho => by repeat' first | exact hx.ats o ho | apply oat.skip)))) ?_; rintro _ _ ⟨rfl, rfl⟩
  refine GO_yes rfl rfl rfl rfl ?_
  refine GQ (ev_eql rfl rfl) ?_
  refine GQ (ev_pick_t rfl rfl rfl) ?_
  refine GQ (ev_move rfl) ?_
  refine GO_yes rfl rfl rfl rfl ?_
  refine GQ (ev_move rfl) ?_
  refine GO_yes rfl rfl rfl rfl ?_
  refine GE (eff_call rfl (Ctr.pick PkA (hck _ (by repeat' first | exact LdN.blk rfl | apply LdN.skip) (by repeat' first | exact Rc.own (flat_length _) hx.A | apply Rd.skip) (fun o ho => by repeat' first | exact hx.ats o ho | apply oat.skip)))) ?_; rintro _ _ ⟨rfl, rfl⟩
  refine GQ (ev_pick_t rfl rfl rfl) ?_
  refine GQ (ev_assign rfl) ?_
  refine GO_nil ?_
  refine GN ?_
  exact G_ret (L' := [] ++ L) rfl (.tmp rfl .nil) EnA ⟨rfl, [], rfl⟩
end Go.Proofs.YtkoncepjfgnjlaaGreat
/- From a contract to what a law's row asks. -/
namespace Go.Proofs.YtkoncepjfgnjlaaGreat
open Go.RowKit
set_option linter.unusedVariables false

/-- A law that holds by its contract: it returns true, and nothing old has turned. -/
theorem law_of_ctr {P : Program} {f : FuncId} {args : Array Value} {w : World} (h : Ctr P f args [old w.hm] fun v L' => v = .bool true ∧ L' = [old w.hm]) :
    Calls P f args w fun e w' => e = .returned (.bool true) ∧ Below w.heap.size w w' := by
  refine (calls_of h (Hp.start w)).mono fun e w' ⟨v, L', e1, ⟨e2, e3⟩, hw'⟩ => ?_
  subst e2 e3
  exact ⟨e1, hw'.below⟩
/-- What a slice of numbers reads as. -/
theorem rc_of_reads {w : World} {sz : Nat} {A : Option Addr} {n : Nat} {xs : List Value} (hsz : 0 < sz) (h : Reads w sz A n xs) : Rc [old w.hm] sz A n xs := by
  refine ⟨h.1, fun h0 => ?_⟩
  obtain ⟨b, o, rfl, hb, hc⟩ := h.2 (Nat.mul_pos h0 hsz)
  refine ⟨b, o, rfl, fun j v hj => Ld.old ?_⟩
  obtain ⟨h1, rfl⟩ := List.getElem?_eq_some_iff.1 hj
  exact hc j h1
end Go.Proofs.YtkoncepjfgnjlaaGreat
/- The point of an act. -/
namespace Go.Proofs.YtkoncepjfgnjlaaGreat
attribute [local irreducible] sat
open Go.RowKit
set_option linter.unusedVariables false
set_option linter.unusedSectionVars false
set_option linter.unusedSimpArgs false
set_option maxRecDepth 100000

/-- What is done: its two numbers and the point. -/
structure Ac where
  kind : Int
  at_ : Int
  p : Pt
/-- The point of an act. -/
def actP (l : List Pt) (a : Ac) : Pt := if a.kind = 2 ∧ 0 < l.length ∧ 0 ≤ a.at_ then l.getD (a.at_ % (l.length : Nat)).toNat a.p else a.p
section
variable {P : Program} {L : List HP} {σ : Env} {d : Option Nat} {ty T T' : TypeId} {pos : String} {aft : Array Edge} {gd : Option (Nat × Bool)} {x y : Operand}
theorem ev_remE {p q : Int} {j : Nat} (e : p % q = (j : Int)) (hx : ev σ x = some (.int .i64 p)) (hy : ev σ y = some (.int .i64 q)) (hp : 0 ≤ p) (hq : 0 < q) : Ev P L σ ⟨d, .binOp .rem T x y T', ty, pos, aft, gd⟩ (.int .i64 (j : Int)) := e ▸ ev_rem hx hy hp hq
end
theorem Point_ctr0 (b : Nat) (A : Option Addr) (c : Nat) (most : Int) (a : Ac) (l : List Pt) (L : List HP) (h : LdN L b 0 2 [.slice A l.length c, .int .i64 most]) (hl : Rd L A l.length l) (hn : l.length ≤ 100000) (ha : a.at_ ≤ 9223372036854775807) :
    Ctr Tryz.prog 71 #[.pointer (some ⟨b, 0, none⟩), .agg #[.int .i64 a.kind, .int .i64 a.at_, .int .i64 a.p.id, .int .i64 a.p.x, .int .i64 a.p.y]] L fun v L' => v = (actP l a).v ∧ L' = L := by
  have h1 : Ld L ⟨b, 0 + 0, none⟩ (.slice A l.length c) := h.at_ (i := 0) rfl
  refine Ctr_of (fn := Tryz.f71) (n := 37) Tryz.func71 rfl rfl rfl ?_
  intro g F
  refine GN ?_
  refine G_region ?_
  refine GE (eff_box rfl) ?_; rintro _ _ ⟨b3, rfl, rfl⟩
  refine GE eff_alloc ?_; rintro _ _ ⟨b4, rfl, rfl⟩
  refine GO_nil ?_
  by_cases k1 : a.kind = 2
  · skip
    by_cases k2 : 0 < l.length
    · skip
      by_cases k3 : 0 ≤ a.at_
      · have e0 : actP l a = l.getD (a.at_ % (l.length : Nat)).toNat a.p := if_pos ⟨k1, k2, k3⟩
        obtain ⟨j, hj⟩ : ∃ j, j = (a.at_ % (l.length : Nat)).toNat := ⟨_, rfl⟩
        have hj1 : a.at_ % (l.length : Nat) = (j : Int) := by
          have := Int.emod_nonneg a.at_ (b := (l.length : Int)) (by omega)
          omega
        have hj2 : j < l.length := by
          have := Int.emod_lt_of_pos a.at_ (b := (l.length : Int)) (by omega)
          omega
        rw [← hj] at e0
        obtain ⟨lb, lo, rfl, hx⟩ := hl.at_ k2
        have g1 : l[j]? = some l[j] := List.getElem?_eq_getElem hj2
        have y1 := hx _ _ g1
        have e1 : l.getD j a.p = l[j] := by rw [List.getD_eq_getElem?_getD, g1]; rfl
        rw [e0, e1]
        generalize l[j] = u at *
        have z1 : LdN L lb (lo + j * 3) 3 [.int .i64 u.id, .int .i64 u.x, .int .i64 u.y] := y1
        refine GN ?_
        refine G_region ?_
        refine GQ (ev_fieldAddr rfl) ?_
        refine GQ (ev_load rfl LdA) ?_
        refine GQ (ev_eql rfl rfl) ?_
        refine GQ (ev_move rfl) ?_
        refine GO_yes rfl rfl rfl (decide_eq_true k1) ?_
        refine GQ (ev_move rfl) ?_
        refine GO_yes rfl rfl rfl (decide_eq_true k1) ?_
        (first | refine GQ (ev_nilCheck rfl) ?_ | refine GQ (ev_nilCheckF (by simp) rfl) ?_)
        refine GO_yes rfl rfl rfl (decide_eq_true k1) ?_
        refine GQ (ev_fieldAddr rfl) ?_
        refine GO_yes rfl rfl rfl (decide_eq_true k1) ?_
        refine GQ (ev_load rfl LdA) ?_
        refine GO_yes rfl rfl rfl (decide_eq_true k1) ?_
        refine GQ (ev_len rfl) ?_
        refine GO_yes rfl rfl rfl (decide_eq_true k1) ?_
        refine GQ (ev_gtr rfl rfl) ?_
        refine GQ (ev_pick_t rfl (decide_eq_true k1) rfl) ?_
        refine GQ (ev_move rfl) ?_
        refine GO_yes rfl rfl rfl (decide_eq_true (by omega)) ?_
        refine GQ (ev_fieldAddr rfl) ?_
        refine GO_yes rfl rfl rfl (decide_eq_true (by omega)) ?_
        refine GQ (ev_load rfl LdA) ?_
        refine GO_yes rfl rfl rfl (decide_eq_true (by omega)) ?_
        refine GQ (ev_geq rfl rfl) ?_
        refine GQ (ev_pick_t rfl (decide_eq_true (by omega)) rfl) ?_
        refine GO_nil ?_
        refine GN ?_
        refine G_cond_t rfl (decide_eq_true k3) ?_
        refine GN ?_
        refine G_draw (.q 0 (.q 1 (.q 2 (.q 3 (.q 4 (.q 5 (.q 6 (.q 7 (.q 8 (.q 9 (.q 10 (.q 11 (.q 12 (.q 13 (.e 14 .nil))))))))))))))) (by kernel_rfl) (by kernel_rfl) ?_
        refine RM rfl (ev_move rfl) ?_
        (first | refine RM rfl (ev_nilCheck rfl) ?_ | refine RM rfl (ev_nilCheckF (by simp) rfl) ?_)
        refine RM rfl (ev_fieldAddr rfl) ?_
        refine RQ rfl (ev_load rfl LdA) ?_
        refine RM rfl (ev_fieldAddr rfl) ?_
        refine RQ rfl (ev_load rfl LdA) ?_
        refine RM rfl (ev_move rfl) ?_
        (first | refine RM rfl (ev_nilCheck rfl) ?_ | refine RM rfl (ev_nilCheckF (by simp) rfl) ?_)
        refine RM rfl (ev_fieldAddr rfl) ?_
        refine RQ rfl (ev_load rfl LdA) ?_
        refine RQ rfl (ev_len rfl) ?_
        refine RM rfl (ev_remE hj1 rfl rfl k3 (by omega)) ?_
        (first | refine RM rfl (ev_indexAddrN rfl rfl NgA) ?_ | refine RM rfl (ev_indexAddr rfl rfl NgA NgA) ?_)
        refine RQ rfl (ev_loadN rfl LnA) ?_
        refine RS_e (RE_last (by kernel_rfl) rfl rfl rfl (eff_storeN rfl rfl rfl rfl UpA) ?_); rintro _ _ ⟨rfl, rfl⟩
        refine GN ?_
        refine G_ret rfl (.cell rfl (loadN_run LnA) .nil) EnA ⟨rfl, rfl⟩
      · have e0 : actP l a = a.p := if_neg (fun h => k3 h.2.2)
        rw [e0]
        refine GN ?_
        refine G_region ?_
        refine GQ (ev_fieldAddr rfl) ?_
        refine GQ (ev_load rfl LdA) ?_
        refine GQ (ev_eql rfl rfl) ?_
        refine GQ (ev_move rfl) ?_
        refine GO_yes rfl rfl rfl (decide_eq_true k1) ?_
        refine GQ (ev_move rfl) ?_
        refine GO_yes rfl rfl rfl (decide_eq_true k1) ?_
        (first | refine GQ (ev_nilCheck rfl) ?_ | refine GQ (ev_nilCheckF (by simp) rfl) ?_)
        refine GO_yes rfl rfl rfl (decide_eq_true k1) ?_
        refine GQ (ev_fieldAddr rfl) ?_
        refine GO_yes rfl rfl rfl (decide_eq_true k1) ?_
        refine GQ (ev_load rfl LdA) ?_
        refine GO_yes rfl rfl rfl (decide_eq_true k1) ?_
        refine GQ (ev_len rfl) ?_
        refine GO_yes rfl rfl rfl (decide_eq_true k1) ?_
        refine GQ (ev_gtr rfl rfl) ?_
        refine GQ (ev_pick_t rfl (decide_eq_true k1) rfl) ?_
        refine GQ (ev_move rfl) ?_
        refine GO_yes rfl rfl rfl (decide_eq_true (by omega)) ?_
        refine GQ (ev_fieldAddr rfl) ?_
        refine GO_yes rfl rfl rfl (decide_eq_true (by omega)) ?_
        refine GQ (ev_load rfl LdA) ?_
        refine GO_yes rfl rfl rfl (decide_eq_true (by omega)) ?_
        refine GQ (ev_geq rfl rfl) ?_
        refine GQ (ev_pick_t rfl (decide_eq_true (by omega)) rfl) ?_
        refine GO_nil ?_
        refine GN ?_
        refine G_cond_f rfl (decide_eq_false k3) ?_
        refine GN ?_
        refine G_region ?_
        refine GQ (ev_fieldAddr rfl) ?_
        refine GQ (ev_loadN rfl LnA) ?_
        refine GE (eff_storeN rfl rfl rfl rfl UpA) ?_; rintro _ _ ⟨rfl, rfl⟩
        refine GO_nil ?_
        refine GN ?_
        refine G_ret rfl (.cell rfl (loadN_run LnA) .nil) EnA ⟨rfl, rfl⟩
    · have e0 : actP l a = a.p := if_neg (fun h => k2 h.2.1)
      rw [e0]
      refine GN ?_
      refine G_region ?_
      refine GQ (ev_fieldAddr rfl) ?_
      refine GQ (ev_load rfl LdA) ?_
      refine GQ (ev_eql rfl rfl) ?_
      refine GQ (ev_move rfl) ?_
      refine GO_yes rfl rfl rfl (decide_eq_true k1) ?_
      refine GQ (ev_move rfl) ?_
      refine GO_yes rfl rfl rfl (decide_eq_true k1) ?_
      (first | refine GQ (ev_nilCheck rfl) ?_ | refine GQ (ev_nilCheckF (by simp) rfl) ?_)
      refine GO_yes rfl rfl rfl (decide_eq_true k1) ?_
      refine GQ (ev_fieldAddr rfl) ?_
      refine GO_yes rfl rfl rfl (decide_eq_true k1) ?_
      refine GQ (ev_load rfl LdA) ?_
      refine GO_yes rfl rfl rfl (decide_eq_true k1) ?_
      refine GQ (ev_len rfl) ?_
      refine GO_yes rfl rfl rfl (decide_eq_true k1) ?_
      refine GQ (ev_gtr rfl rfl) ?_
      refine GQ (ev_pick_t rfl (decide_eq_true k1) rfl) ?_
      refine GQ (ev_move rfl) ?_
      refine GO_no rfl rfl rfl (decide_eq_false (by omega)) ?_
      refine GO_no rfl rfl rfl (decide_eq_false (by omega)) ?_
      refine GO_no rfl rfl rfl (decide_eq_false (by omega)) ?_
      refine GQ (ev_pick_f rfl (decide_eq_false (by omega)) rfl) ?_
      refine GO_nil ?_
      refine GN ?_
      refine G_cond_f rfl rfl ?_
      refine GN ?_
      refine G_region ?_
      refine GQ (ev_fieldAddr rfl) ?_
      refine GQ (ev_loadN rfl LnA) ?_
      refine GE (eff_storeN rfl rfl rfl rfl UpA) ?_; rintro _ _ ⟨rfl, rfl⟩
      refine GO_nil ?_
      refine GN ?_
      refine G_ret rfl (.cell rfl (loadN_run LnA) .nil) EnA ⟨rfl, rfl⟩
  · have e0 : actP l a = a.p := if_neg (fun h => k1 h.1)
    rw [e0]
    refine GN ?_
    refine G_region ?_
    refine GQ (ev_fieldAddr rfl) ?_
    refine GQ (ev_load rfl LdA) ?_
    refine GQ (ev_eql rfl rfl) ?_
    refine GQ (ev_move rfl) ?_
    refine GO_no rfl rfl rfl (decide_eq_false k1) ?_
    refine GO_no rfl rfl rfl (decide_eq_false k1) ?_
    refine GO_no rfl rfl rfl (decide_eq_false k1) ?_
    refine GO_no rfl rfl rfl (decide_eq_false k1) ?_
    refine GO_no rfl rfl rfl (decide_eq_false k1) ?_
    refine GO_no rfl rfl rfl (decide_eq_false k1) ?_
    refine GQ (ev_pick_f rfl (decide_eq_false k1) rfl) ?_
    refine GQ (ev_move rfl) ?_
    refine GO_no rfl rfl rfl rfl ?_
    refine GO_no rfl rfl rfl rfl ?_
    refine GO_no rfl rfl rfl rfl ?_
    refine GQ (ev_pick_f rfl rfl rfl) ?_
    refine GO_nil ?_
    refine GN ?_
    refine G_cond_f rfl rfl ?_
    refine GN ?_
    refine G_region ?_
    refine GQ (ev_fieldAddr rfl) ?_
    refine GQ (ev_loadN rfl LnA) ?_
    refine GE (eff_storeN rfl rfl rfl rfl UpA) ?_; rintro _ _ ⟨rfl, rfl⟩
    refine GO_nil ?_
    refine GN ?_
    refine G_ret rfl (.cell rfl (loadN_run LnA) .nil) EnA ⟨rfl, rfl⟩
instance : Enc Ac := ⟨5, fun a => [.int .i64 a.kind, .int .i64 a.at_, .int .i64 a.p.id, .int .i64 a.p.x, .int .i64 a.p.y], fun _ => rfl, fun p v h => by
  simp at h
  rcases h with rfl | rfl | rfl | rfl | rfl <;> rfl⟩
theorem acts_of : ∀ (n : Nat) (ns : List Int), ns.length = n * 5 → Ints ns → ∃ l : List Ac, flat l = ints ns ∧ ∀ a ∈ l, a.at_ ≤ 9223372036854775807
  | 0, ns, h, _ => ⟨[], by
    have : ns = [] := List.eq_nil_of_length_eq_zero (by simpa using h)
    subst this; rfl, by simp⟩
  | n + 1, a :: b :: c :: d :: e :: ns, h, hb => by
    obtain ⟨l, hl, hk⟩ := acts_of n ns (by simp at h; omega) (fun x hx => hb x (by simp [hx]))
    refine ⟨⟨a, b, ⟨c, d, e⟩⟩ :: l, by rw [flat_cons, hl]; rfl, fun u hu => ?_⟩
    rcases List.mem_cons.1 hu with rfl | hu
    · exact (hb b (by simp)).2
    · exact hk u hu
  | n + 1, [], h, _ => by simp at h
  | n + 1, [_], h, _ => by simp at h; omega
  | n + 1, [_, _], h, _ => by simp at h; omega
  | n + 1, [_, _, _], h, _ => by simp at h; omega
  | n + 1, [_, _, _, _], h, _ => by simp at h; omega
theorem rd_acts {w : World} {A : Option Addr} {n : Nat} {ns : List Int} (h : Reads w 5 A n (ints ns)) (hb : Ints ns) : ∃ l : List Ac, Rd [old w.hm] A n l ∧ ∀ a ∈ l, a.at_ ≤ 9223372036854775807 := by
  obtain ⟨l, hl, hk⟩ := acts_of n ns (by simpa [ints] using h.1) hb
  refine ⟨l, ?_, hk⟩
  unfold Rd
  rw [hl]
  exact rc_of_reads (by decide) h
end Go.Proofs.YtkoncepjfgnjlaaGreat
/- Points in several trees: the reference's Sizes; one act on both. -/
namespace Go.Proofs.YtkoncepjfgnjlaaGreat
attribute [local irreducible] sat
open Go.RowKit
set_option linter.unusedVariables false
set_option linter.unusedSectionVars false
set_option linter.unusedSimpArgs false
set_option maxRecDepth 100000

theorem trimZ_len0 (l : List Int) : (trimZ (l ++ [0])).length = (trimZ l).length := by rw [trimZ_zero]
section
variable {x : RfX} {S : LgS} {r : Nat} {most : Int} {L : List HP} (hx : RfI x S) (h : LdN L r 0 4 (rfC x.A x.qs.length x.c x.D S.d.length x.e most (S.bu : Nat))) (hq : Rd L x.A x.qs.length x.qs)
include hx h hq
theorem KSizes_ctr (hl : S.ls.length ≤ 1000) (ht : S.ls.flatten.length ≤ 1000) : Ctr Tryz.prog 17 #[.pointer (some ⟨r, 0, none⟩)] L fun v L' => MadeY (trimZ (szL S.ls)) L v L' := by
  have h0 : Ld L ⟨r, 0 + 0, none⟩ (.slice x.A x.qs.length x.c) := h.at_ (i := 0) rfl
  have hlen := hx.len
  have hqs := hx.qs
  generalize x.qs = qs at *
  generalize x.A = A at *
  generalize x.c = c at *
  obtain ⟨n, hn⟩ : ∃ n, qs.length = n := ⟨_, rfl⟩
  rw [hn] at h0 hq hlen
  refine Ctr_of (fn := Tryz.f17) (n := 41) Tryz.func17 rfl rfl rfl ?_
  intro g F
  refine GN ?_
  refine G_region ?_
  refine GQ (ev_assign rfl) ?_
  refine GO_nil ?_
  refine GN ?_
  refine G_region ?_
  refine GE eff_buildSlice0 ?_; rintro _ _ ⟨b6, rfl, rfl⟩
  refine GQ (ev_assign rfl) ?_
  refine GQ (ev_assign rfl) ?_
  refine GO_nil ?_
  refine GN ?_
  refine G_region ?_
  refine GQ (ev_assign rfl) ?_
  refine GO_nil ?_
  refine GN ?_
  refine G_loop (ι := Nat × Option Addr × Nat) (fun y => [(0, .pointer (some ⟨r, 0, none⟩)), (3, .slice y.2.1 y.1 y.2.2), (4, .int .i64 ((trimZ (szL (S.ls.take y.1))).length : Nat)), (5, .int .i64 (y.1 : Nat))]) (fun y => own 3 1 y.2.1 y.1 y.2.2 (flat (szL (S.ls.take y.1))) :: F :: L)
    (fun y => y.1 ≤ n ∧ (0 < y.1 → ∃ b, y.2.1 = some ⟨b, 0, none⟩)) (fun y => n - y.1) (0, some ⟨b6, 0, none⟩, 0) ⟨Nat.zero_le _, fun _ => ⟨b6, rfl⟩⟩ ⟨rfl, rfl, rfl, rfl, trivial⟩ EpA ?_
  rintro ⟨k, B, d⟩ ⟨f1, f2⟩
  simp only at f1 f2
  dsimp only
  refine GN ?_
  refine G_region ?_
  refine GQ (ev_move rfl) ?_
  refine GQ (ev_move rfl) ?_
  (first | refine GQ (ev_nilCheck rfl) ?_ | refine GQ (ev_nilCheckF (by simp) rfl) ?_)
  refine GQ (ev_fieldAddr rfl) ?_
  refine GQ (ev_load rfl LdA) ?_
  refine GQ (ev_len rfl) ?_
  (first | refine GQ (ev_lssN rfl rfl) ?_ | refine GQ (ev_lss rfl rfl) ?_)
  refine GO_nil ?_
  refine GN ?_
  refine G_cond rfl (fun c1 => ?_) (fun c1 => ?_)
  · obtain ⟨lb, lo, rfl, hxx⟩ := hq.at_ (by omega)
    have g1 : qs[k]? = some qs[k] := List.getElem?_eq_getElem (by omega)
    have y1 := (hxx _ _ g1).at_ (i := 0) rfl
    have g2 : S.ls[k]? = some qs[k].l := by rw [← hqs]; simp [g1]
    have s1 : szL (S.ls.take (k + 1)) = szL (S.ls.take k) ++ [((qs[k].l.length : Nat) : Int)] := by
      unfold szL
      rw [List.take_add_one, g2]; simp
    have s2 : qs[k].l.length ≤ S.ls.flatten.length := by
      have : (S.ls.take (k + 1)).flatten.length ≤ S.ls.flatten.length := by
        conv => rhs; rw [← List.take_append_drop (k + 1) S.ls]
        rw [List.flatten_append, List.length_append]; omega
      rw [flatten_at g2, List.length_append] at this
      omega
    have s3 : (szL (S.ls.take k)).length = k := by simp [szL]; omega
    generalize qs[k] = q at *
    have z1 : Ld L ⟨lb, lo + k * 1, none⟩ (.slice q.A q.l.length q.c) := y1
    refine GN ?_
    refine G_region ?_
    refine GQ (ev_move rfl) ?_
    refine GQ (ev_move rfl) ?_
    (first | refine GQ (ev_nilCheck rfl) ?_ | refine GQ (ev_nilCheckF (by simp) rfl) ?_)
    refine GQ (ev_fieldAddr rfl) ?_
    refine GQ (ev_load rfl LdA) ?_
    refine GQ (ev_move rfl) ?_
    (first | refine GQ (ev_indexAddrN rfl rfl NgA) ?_ | refine GQ (ev_indexAddr rfl rfl NgA NgA) ?_)
    refine GQ (ev_load rfl LdA) ?_
    refine GQ (ev_len rfl) ?_
    refine GE (eff_buildSlice1 (by rfl) rfl rfl) ?_; rintro _ _ ⟨b25, rfl, rfl⟩
    refine GE (eff_append rfl rfl PkA (by repeat' first | exact Rc.blk rfl | assumption | apply Rc.skip) (one_all rfl) (by rfl) (by decide) NgA NgA) ?_; rintro _ _ ⟨A26, c26, rfl, hc26, hm26, hn26, rfl⟩
    refine GQ (ev_assign rfl) ?_
    refine GO_nil ?_
    refine GN ?_
    refine G_region ?_
    refine GQ (ev_move rfl) ?_
    (first | refine GQ (ev_nilCheck rfl) ?_ | refine GQ (ev_nilCheckF (by simp) rfl) ?_)
    refine GQ (ev_fieldAddr rfl) ?_
    refine GQ (ev_load rfl LdA) ?_
    refine GQ (ev_move rfl) ?_
    (first | refine GQ (ev_indexAddrN rfl rfl NgA) ?_ | refine GQ (ev_indexAddr rfl rfl NgA NgA) ?_)
    refine GQ (ev_load rfl LdA) ?_
    refine GQ (ev_len rfl) ?_
    refine GQ (ev_gtr rfl rfl) ?_
    refine GO_nil ?_
    by_cases h9 : q.l.length = 0
    · have s4 : (trimZ (szL (S.ls.take (k + 1)))).length = (trimZ (szL (S.ls.take k))).length := by rw [s1, h9]; exact trimZ_len0 _
      refine GN ?_
      refine G_cond_f rfl (decide_eq_false (by omega)) ?_
      refine GN ?_
      refine GN ?_
      refine G_region ?_
      refine GQ (ev_move rfl) ?_
      (first | refine GQ (ev_addN (q := 1) rfl rfl NgA) ?_ | refine GQ (ev_add rfl rfl NgA) ?_)
      refine GQ (ev_assign rfl) ?_
      refine GO_nil ?_
      refine GN ?_
      refine G_round (k + 1, A26, c26) ⟨by simp only; omega, hn26⟩ (by simp only; omega) ⟨rfl, rfl, by simp only; rw [s4]; rfl, rfl, trivial⟩ ?_
      simp only
      rw [s1, ← flat_snoc]
      exact EpA
    · have s4 : (trimZ (szL (S.ls.take (k + 1)))).length = k + 1 := by rw [s1, trimZ_some _ (by omega), List.length_append, s3]; rfl
      refine GN ?_
      refine G_cond_t rfl (decide_eq_true (by omega)) ?_
      refine GN ?_
      refine G_region ?_
      refine GQ (ev_move rfl) ?_
      (first | refine GQ (ev_addN (q := 1) rfl rfl NgA) ?_ | refine GQ (ev_add rfl rfl NgA) ?_)
      refine GQ (ev_assign rfl) ?_
      refine GO_nil ?_
      refine GN ?_
      refine G_region ?_
      refine GQ (ev_move rfl) ?_
      (first | refine GQ (ev_addN (q := 1) rfl rfl NgA) ?_ | refine GQ (ev_add rfl rfl NgA) ?_)
      refine GQ (ev_assign rfl) ?_
      refine GO_nil ?_
      refine GN ?_
      refine G_round (k + 1, A26, c26) ⟨by simp only; omega, hn26⟩ (by simp only; omega) ⟨rfl, rfl, by simp only; rw [s4]; rfl, rfl, trivial⟩ ?_
      simp only
      rw [s1, ← flat_snoc]
      exact EpA
  · have e : k = n := by omega
    subst e
    rw [List.take_of_length_le (by omega)]
    refine G_pure (fun h s => own.facts s) ?_
    rintro ⟨_, fd, f4, _⟩
    have hal : (szL S.ls).length = k := by simp [szL]; omega
    have hpre := trimZ_pre (szL S.ls)
    have hple := hpre.length_le
    have htk : trimZ (szL S.ls) = (szL S.ls).take (trimZ (szL S.ls)).length := List.prefix_iff_eq_take.1 hpre
    generalize szL S.ls = z at *
    have hq2 : ∀ X, Rd (own 3 1 B k d (flat z) :: X) B (trimZ z).length (trimZ z) := fun X => by
      have h1 : Rd (own 3 1 B k d (flat z) :: X) B k z := Rc.own (by rw [flat_length, hal]; rfl) f2
      have := h1.take (k := (trimZ z).length) (by omega)
      rwa [← htk] at this
    refine GN ?_
    refine G_region ?_
    refine GQ (ev_move rfl) ?_
    refine GQ (ev_move rfl) ?_
    refine GQ (ev_sliceH rfl rfl (by omega)) ?_
    refine GQ (ev_assign rfl) ?_
    refine GO_nil ?_
    refine GN ?_
    exact G_ret (L' := own 3 1 B k d (flat z) :: L) rfl (.tmp rfl .nil) EpA ⟨_, B, d, rfl, by omega, f4, hq2, rfl⟩
end
theorem point19_ctr (r : Nat) (most : Int) (S : LgS) (a : Ac) (m : Nat) (L : List HP) (ok : LgOk S m) (hm : m ≤ 300) (ha : a.at_ ≤ 9223372036854775807) :
    Ctr Tryz.prog 42 #[.pointer (some ⟨r, 0, none⟩), .agg #[.int .i64 a.kind, .int .i64 a.at_, .int .i64 a.p.id, .int .i64 a.p.x, .int .i64 a.p.y]] (rfF r most S :: L) fun v L' => v = (actP S.live a).v ∧ L' = rfF r most S :: L := by
  refine Ctr.rf fun x hx => ?_
  have hll := ok.live_len
  have htot := ok.tot
  have hl10 : S.ls.length ≤ 10 := lv_le9 ok.lv (by omega)
  have hql : ∀ X, Rd (own 38 1 x.A x.qs.length x.c (flat x.qs) :: X) x.A x.qs.length x.qs := fun X => Rc.own (flat_length _) hx.A
  have hin : ∀ X, ∀ q ∈ x.qs, q.at_ (pk x.N :: X) := fun X q hq => (hx.at_ q hq).pk
  have hdd : ∀ X, Rd (pk x.N :: X) x.D S.d.length S.d := fun X => Rd.pk hx.dd
  have hlive := fun M h1 h2 h3 h4 => KLive_ctr (r := r) (most := most) (L := M) hx h1 h2 h3 h4 ok.nd (by omega) (by omega) (by omega)
  have hP := fun b A c M h1 h2 => Point_ctr0 b A c 0 a S.live M h1 h2 (by omega) ha
  generalize S.live = l at *
  refine Ctr_of (fn := Tryz.f42) (n := 11) Tryz.func42 rfl rfl rfl ?_
  intro g F
  refine GN ?_
  refine G_region ?_
  refine GE (eff_box rfl) ?_; rintro _ _ ⟨b3, rfl, rfl⟩
  refine GE eff_alloc ?_; rintro _ _ ⟨b4, rfl, rfl⟩
  refine GO_nil ?_
  refine GN ?_
  refine G_draw (.q 0 (.q 4 (.e 1 (.q 2 (.e 3 (.e 5 (.e 6 .nil))))))) (by kernel_rfl) (by kernel_rfl) ?_
  refine RM rfl (ev_move rfl) ?_
  refine RQ rfl (ev_loadN rfl LnA) ?_
  refine RS_e (RE_eff rfl rfl rfl (eff_call rfl (hlive _ (by repeat' first | exact LdN.blk rfl | apply LdN.skip) (by repeat' first | exact hql _ | apply Rd.skip) (fun q hq ↦ by repeat' first | exact hin _ q hq | apply QS.at_.skip) (by repeat' first | exact hdd _ | apply Rd.skip))) ?_); rintro _ _ ⟨bl, cl, rfl, k1, k2, rfl⟩; refine ⟨_, fun _ s => s, ExA, ?_⟩
  refine RM rfl (ev_build rfl rfl) ?_
  refine RS_e (RE_eff rfl rfl rfl (eff_box rfl) ?_); rintro _ _ ⟨b8, rfl, rfl⟩; refine ⟨_, fun _ s => s, ExA, ?_⟩
  refine RS_e (RE_eff rfl rfl rfl (eff_call rfl (hP b8 _ cl _ LnA (by repeat' first | exact Rc.own (flat_length _) (fun _ ↦ ⟨bl, rfl⟩) | apply Rd.skip))) ?_); rintro _ _ ⟨rfl, rfl⟩; refine ⟨_, fun _ s => s, ExA, ?_⟩
  refine RS_e (RE_last (by kernel_rfl) rfl rfl rfl (eff_storeN rfl rfl rfl rfl UpA) ?_); rintro _ _ ⟨rfl, rfl⟩
  refine GN ?_
  refine G_ret (L' := rfF r most S :: L) rfl (.cell rfl (loadN_run LnA) .nil) (by (repeat first | exact en_refl | refine en_rf x rfl rfl rfl rfl hx ?_ | (apply en_blk; focus ((repeat' first | exact Pick.here | apply Pick.skip | apply Pick.app); done); focus rfl) | (apply en_own; focus ((repeat' first | exact Pick.here | apply Pick.skip | apply Pick.app); done); focus rfl) | (apply en_pick; focus ((repeat' first | exact Pick.here | apply Pick.skip | apply Pick.app); done)) | apply en_drop | apply en_app) <;> fail) ⟨rfl, rfl⟩
/-- What an act leaves. -/
def LgS.act (most : Int) (S : LgS) (a : Ac) : LgS := if a.kind = 1 ∨ a.kind = 2 then S.del (actP S.live a) else S.ins most (actP S.live a)
theorem LgOk.act {most : Int} {S : LgS} {m : Nat} (ok : LgOk S m) (hm : m ≤ 300) (a : Ac) : LgOk (S.act most a) (m + 1) := by
  unfold LgS.act
  split
  · exact ok.del hm
  · exact ok.ins hm
theorem does19_ctr (t r : Nat) (most : Int) (S : LgS) (a : Ac) (m : Nat) (L : List HP) (ok : LgOk S m) (hm : m ≤ 300) (ha : a.at_ ≤ 9223372036854775807) :
    Ctr Tryz.prog 14 #[.pointer (some ⟨t, 0, none⟩), .pointer (some ⟨r, 0, none⟩), .agg #[.int .i64 a.kind, .int .i64 a.at_, .int .i64 a.p.id, .int .i64 a.p.x, .int .i64 a.p.y]] (lgF t most S :: rfF r most S :: L) fun v L' => v = .bool true ∧ L' = lgF t most (S.act most a) :: rfF r most (S.act most a) :: L := by
  unfold LgS.act
  have hpt := fun M => point19_ctr r most S a m M ok hm ha
  generalize hp : actP S.live a = p at *
  refine Ctr_of (fn := Tryz.f14) (n := 33) Tryz.func14 rfl rfl rfl ?_
  intro g F
  refine GN ?_
  refine G_region ?_
  refine GE (eff_box rfl) ?_; rintro _ _ ⟨b5, rfl, rfl⟩
  refine GQ (ev_assign rfl) ?_
  refine GO_nil ?_
  refine GN ?_
  refine G_region ?_
  refine GQ (ev_move rfl) ?_
  refine GQ (ev_loadN rfl LnA) ?_
  refine GE (eff_call rfl (Ctr.pick PkA (hpt _))) ?_; rintro _ _ ⟨rfl, rfl⟩
  refine GE eff_alloc ?_; rintro _ _ ⟨b7, rfl, rfl⟩
  refine GE (eff_storeN rfl rfl rfl rfl UpA) ?_; rintro _ _ ⟨rfl, rfl⟩
  refine GO_nil ?_
  refine G_heap (L' := lgF t most S :: rfF r most S :: blk b7 28 [.int .i64 p.id, .int .i64 p.x, .int .i64 p.y] :: blk b5 43 [.int .i64 a.kind, .int .i64 a.at_, .int .i64 a.p.id, .int .i64 a.p.x, .int .i64 a.p.y] :: F :: L) EpA ?_
  by_cases hc : a.kind = 1 ∨ a.kind = 2
  · rw [if_pos hc]
    by_cases k1 : a.kind = 1
    case' pos =>
      refine GN ?_
      refine G_region ?_
      refine GQ (ev_fieldAddr rfl) ?_
      refine GQ (ev_load rfl LdA) ?_
      refine GQ (ev_eql rfl rfl) ?_
      refine GQ (ev_move rfl) ?_
      refine GO_no rfl rfl rfl (decide_eq_true k1) ?_
      refine GO_no rfl rfl rfl (decide_eq_true k1) ?_
      refine GO_no rfl rfl rfl (decide_eq_true k1) ?_
      refine GQ (ev_pick_t rfl (decide_eq_true k1) rfl) ?_
      refine GO_nil ?_
      refine GN ?_
      refine G_cond_t rfl rfl ?_
    case' neg =>
      have k2 : a.kind = 2 := by omega
      refine GN ?_
      refine G_region ?_
      refine GQ (ev_fieldAddr rfl) ?_
      refine GQ (ev_load rfl LdA) ?_
      refine GQ (ev_eql rfl rfl) ?_
      refine GQ (ev_move rfl) ?_
      refine GO_yes rfl rfl rfl (decide_eq_false k1) ?_
      refine GQ (ev_fieldAddr rfl) ?_
      refine GO_yes rfl rfl rfl (decide_eq_false k1) ?_
      refine GQ (ev_load rfl LdA) ?_
      refine GO_yes rfl rfl rfl (decide_eq_false k1) ?_
      refine GQ (ev_eql rfl rfl) ?_
      refine GQ (ev_pick_f rfl (decide_eq_false k1) rfl) ?_
      refine GO_nil ?_
      refine GN ?_
      refine G_cond_t rfl (decide_eq_true k2) ?_
    all_goals
      refine GN ?_
      refine G_drawE 0 (.q 0 (.q 1 (.q 3 (.q 4 (.e 2 (.e 5 (.q 6 (.q 7 .nil)))))))) (by kernel_rfl) (by kernel_rfl) ?_
      refine RM rfl (ev_move rfl) ?_
      refine RQ rfl (ev_loadN rfl LnA) ?_
      refine RM rfl (ev_move rfl) ?_
      refine RQ rfl (ev_loadN rfl LnA) ?_
      refine RS_e (RE_eff rfl rfl rfl (eff_call rfl (Ctr.pick PkA (LgDelete_ctr t most S p m _ ok hm))) ?_); rintro _ _ ⟨rfl, rfl⟩; refine ⟨_, ExA, fun _ s => s, ?_⟩
      refine RS_e (RE_cmp (by kernel_rfl) rfl rfl rfl (eff_call rfl (Ctr.pick PkA (rDelete_ctr r most S p m _ ok hm))) ?_); rintro _ _ ⟨rfl, rfl⟩
      refine RM rfl (ev_eql rfl rfl) ?_
      refine RM rfl (ev_assign rfl) ?_
      refine RS_nil ?_
      refine GN ?_
      refine G_ret (L' := lgF t most (S.del p) :: rfF r most (S.del p) :: L) rfl (.tmp rfl .nil) EpA ⟨by simp [retv], rfl⟩
  · rw [if_neg hc]
    have k1 : ¬ a.kind = 1 := fun h => hc (.inl h)
    have k2 : ¬ a.kind = 2 := fun h => hc (.inr h)
    refine GN ?_
    refine G_region ?_
    refine GQ (ev_fieldAddr rfl) ?_
    refine GQ (ev_load rfl LdA) ?_
    refine GQ (ev_eql rfl rfl) ?_
    refine GQ (ev_move rfl) ?_
    refine GO_yes rfl rfl rfl (decide_eq_false k1) ?_
    refine GQ (ev_fieldAddr rfl) ?_
    refine GO_yes rfl rfl rfl (decide_eq_false k1) ?_
    refine GQ (ev_load rfl LdA) ?_
    refine GO_yes rfl rfl rfl (decide_eq_false k1) ?_
    refine GQ (ev_eql rfl rfl) ?_
    refine GQ (ev_pick_f rfl (decide_eq_false k1) rfl) ?_
    refine GO_nil ?_
    refine GN ?_
    refine G_cond_f rfl (decide_eq_false k2) ?_
    refine GN ?_
    refine G_drawE 0 (.q 0 (.q 1 (.q 3 (.q 4 (.e 2 (.e 5 (.q 6 (.q 7 .nil)))))))) (by kernel_rfl) (by kernel_rfl) ?_
    refine RM rfl (ev_move rfl) ?_
    refine RQ rfl (ev_loadN rfl LnA) ?_
    refine RM rfl (ev_move rfl) ?_
    refine RQ rfl (ev_loadN rfl LnA) ?_
    refine RS_e (RE_eff rfl rfl rfl (eff_call rfl (Ctr.pick PkA (LgInsert_ctr t most S p m _ ok hm))) ?_); rintro _ _ ⟨rfl, rfl⟩; refine ⟨_, ExA, fun _ s => s, ?_⟩
    refine RS_e (RE_cmp (by kernel_rfl) rfl rfl rfl (eff_call rfl (Ctr.pick PkA (rInsert_ctr r most S p m _ ok hm))) ?_); rintro _ _ ⟨rfl, rfl⟩
    refine RM rfl (ev_eql rfl rfl) ?_
    refine RM rfl (ev_assign rfl) ?_
    refine RS_nil ?_
    refine GN ?_
    refine G_ret (L' := lgF t most (S.ins most p) :: rfF r most (S.ins most p) :: L) rfl (.tmp rfl .nil) EpA ⟨by simp [retv], rfl⟩
end Go.Proofs.YtkoncepjfgnjlaaGreat
/- The laws LogmTrees and LogmPlays. -/
namespace Go.Proofs.YtkoncepjfgnjlaaGreat
attribute [local irreducible] sat
open Go.RowKit
set_option linter.unusedVariables false
set_option linter.unusedSectionVars false
set_option linter.unusedSimpArgs false
set_option maxRecDepth 100000

def playS (most : Int) (l : List Ac) : LgS := l.foldl (LgS.act most) ⟨[], [], 0⟩
theorem playS_succ (most : Int) (l : List Ac) (k : Nat) (h : k < l.length) : playS most (l.take (k + 1)) = (playS most (l.take k)).act most l[k] := by
  unfold playS; rw [List.take_succ_eq_append_getElem h, List.foldl_append]; rfl
theorem playS_ok (most : Int) (l : List Ac) : ∀ k, k ≤ l.length → k ≤ 300 → LgOk (playS most (l.take k)) k
  | 0, _, _ => by simpa [playS] using LgOk.zero
  | k + 1, h, h2 => by
    rw [playS_succ most l k (by omega)]
    exact (playS_ok most l k (by omega) (by omega)).act (by omega) _
@[reducible] def lgO (t : Nat) (most : Int) (x : LgX) (S : LgS) (M : List HP) : List HP := blk t 69 (lsC x.A x.ts.length x.c x.b (S.d.length : Nat) most (S.bu : Nat)) :: mpH x.b x.M :: own 63 1 x.A x.ts.length x.c (flat x.ts) :: pk x.N :: M
@[reducible] def rfO (r : Nat) (most : Int) (x : RfX) (S : LgS) (M : List HP) : List HP := blk r 40 (rfC x.A x.qs.length x.c x.D S.d.length x.e most (S.bu : Nat)) :: own 38 1 x.A x.qs.length x.c (flat x.qs) :: pk x.N :: M
theorem rf_open {r : Nat} {most : Int} {S : LgS} {M : List HP} {hm : Hm} (h : sat (rfF r most S :: M) hm) : ∃ x, RfI x S ∧ sat (rfO r most x S M) hm :=
  sat_open (ι := RfX) (F := fun x => RfI x S) (N := fun x => rfL r most x S) (fun _ h => h) h
theorem does19_open (t r : Nat) (most : Int) (S : LgS) (a : Ac) (m : Nat) (L : List HP) (ok : LgOk S m) (hm : m ≤ 300) (ha : a.at_ ≤ 9223372036854775807) :
    Ctr Tryz.prog 14 #[.pointer (some ⟨t, 0, none⟩), .pointer (some ⟨r, 0, none⟩), .agg #[.int .i64 a.kind, .int .i64 a.at_, .int .i64 a.p.id, .int .i64 a.p.x, .int .i64 a.p.y]] (lgF t most S :: rfF r most S :: L) fun v L' => ∃ (x : LgX) (y : RfX), v = .bool true ∧ LgJ x (S.act most a) ∧ RfI y (S.act most a) ∧ L' = lgO t most x (S.act most a) (rfO r most y (S.act most a) L) :=
  (does19_ctr t r most S a m L ok hm ha).post' fun v L' hh ⟨e1, e2⟩ h => by
    subst e2
    obtain ⟨x, hx, h1⟩ := lg_open h
    obtain ⟨y, hy, h2⟩ := rf_open (M := blk t 69 (lsC x.A x.ts.length x.c x.b ((S.act most a).d.length : Nat) most ((S.act most a).bu : Nat)) :: mpH x.b x.M :: own 63 1 x.A x.ts.length x.c (flat x.ts) :: pk x.N :: L) (h1.perm (List.perm_middle (l₁ := [_, _, _, _])))
    exact ⟨_, ⟨x, y, e1, hx, hy, rfl⟩, h2.perm (List.perm_append_comm_assoc [_, _, _] [_, _, _, _] L)⟩
theorem en_rf0 {L M : List HP} {r : Nat} {most : Int} (f : ∀ h, sat L h → sat (blk r 40 (rfC none 0 0 none 0 0 most 0) :: M) h) : ∀ h, sat L h → sat (rfF r most ⟨[], [], 0⟩ :: M) h := by
  have hz : RfI ⟨none, 0, [], none, 0, []⟩ ⟨[], [], 0⟩ := ⟨rfl, by simp, Rd.nil _ _, Nat.le_refl _, Nat.zero_le _, fun h => absurd h (Nat.lt_irrefl 0)⟩
  refine en_rf ⟨none, 0, [], none, 0, []⟩ rfl rfl (bu := 0) rfl rfl hz (fun h s => ?_)
  exact sat.cons_mono (fun _ s => own.nil_ 38 1 _ (en_pack (K := []) en_refl _ s)) (f h s)
theorem LogmTrees_ctr (A : Option Addr) (n c : Nat) (acts : List Ac) (w : Bx) (L : List HP) (hl : Rd L A n acts) (hn : n ≤ 9223372036854775807) (ha : ∀ a ∈ acts, a.at_ ≤ 9223372036854775807) :
    Ctr Tryz.prog 4 #[.slice A n c, w.v] L fun v L' => v = .bool true ∧ L' = L := by
  have h1 : acts.length = n := hl.len (by decide)
  refine Ctr_of (fn := Tryz.f4) (n := 73) Tryz.func4 rfl rfl rfl ?_
  intro g F
  refine GN ?_
  refine G_region ?_
  refine GE (eff_box rfl) ?_; rintro _ _ ⟨b3, rfl, rfl⟩
  refine GQ (ev_assign rfl) ?_
  refine GO_nil ?_
  refine GN ?_
  refine G_region ?_
  refine GE (eff_call rfl (lgNewF_ctr 60 _ (by decide) (by decide))) ?_; rintro _ _ ⟨t, rfl, rfl⟩
  refine GQ (ev_move rfl) ?_
  refine GQ (ev_extract rfl rfl) ?_
  refine GQ (ev_extract rfl rfl) ?_
  refine GQ (ev_assign rfl) ?_
  refine GQ (ev_assign rfl) ?_
  refine GO_nil ?_
  refine GN ?_
  refine G_region ?_
  refine GQ (ev_move rfl) ?_
  (first | refine GQ (ev_eqlNil rfl rfl) ?_ | refine GQ (ev_eqlPtr rfl rfl) ?_)
  refine GQ (ev_move rfl) ?_
  refine GO_yes rfl rfl rfl rfl ?_
  refine GQ (ev_move rfl) ?_
  refine GO_yes rfl rfl rfl rfl ?_
  refine GQ (ev_neq rfl rfl) ?_
  refine GQ (ev_pick_f rfl rfl rfl) ?_
  refine GO_nil ?_
  refine GN ?_
  refine G_cond_f rfl rfl ?_
  refine GN ?_
  refine G_region ?_
  refine GQ (ev_build rfl rfl) ?_
  refine GE (eff_box rfl) ?_; rintro _ _ ⟨b21, rfl, rfl⟩
  refine GQ (ev_assign rfl) ?_
  refine GO_nil ?_
  refine GN ?_
  refine G_region ?_
  refine GQ (ev_assign rfl) ?_
  refine GO_nil ?_
  refine GN ?_
  refine G_loop (ι := Nat) (fun k => [(0, .slice A n c), (3, .pointer (some ⟨b3, 0, none⟩)), (5, .pointer (some ⟨t, 0, none⟩)), (7, .pointer (some ⟨b21, 0, none⟩)), (8, .int .i64 (k : Nat))]) (fun k => lgF t 60 (playS 60 (acts.take k)) :: rfF b21 60 (playS 60 (acts.take k)) :: blk b3 35 [.int .i64 w.x1, .int .i64 w.x2, .int .i64 w.y1, .int .i64 w.y2] :: F :: L)
    (fun k => k ≤ n ∧ k ≤ 70) (fun k => n - k) 0 ⟨Nat.zero_le _, Nat.zero_le _⟩ ⟨rfl, rfl, rfl, rfl, rfl, trivial⟩ (by (repeat first | exact en_refl | apply en_rf0 | (apply en_blk; focus ((repeat' first | exact Pick.here | apply Pick.skip | apply Pick.app); done); focus rfl) | (apply en_own; focus ((repeat' first | exact Pick.here | apply Pick.skip | apply Pick.app); done); focus rfl) | (apply en_pick; focus ((repeat' first | exact Pick.here | apply Pick.skip | apply Pick.app); done)) | apply en_drop | apply en_app) <;> fail) ?_
  rintro k ⟨f1, f2⟩
  have ok := playS_ok 60 acts k (by omega) (by omega)
  by_cases c1 : k < n ∧ k < 70
  · obtain ⟨lb, lo, rfl, hx⟩ := hl.at_ (by omega)
    have g1 : acts[k]? = some acts[k] := List.getElem?_eq_getElem (by omega)
    have y1 := hx _ _ g1
    have s1 := playS_succ 60 acts k (by omega)
    have m1 := ha acts[k] (List.getElem_mem _)
    have ok2 := playS_ok 60 acts (k + 1) (by omega) (by omega)
    rw [s1] at ok2
    generalize playS 60 (acts.take k) = S at *
    generalize acts[k] = u at *
    have z1 : LdN L lb (lo + k * 5) 5 [.int .i64 u.kind, .int .i64 u.at_, .int .i64 u.p.id, .int .i64 u.p.x, .int .i64 u.p.y] := y1
    have D := fun M => does19_open t b21 60 S u k M ok (by omega) m1
    generalize S.act 60 u = S2 at *
    have htot := ok2.tot
    have hl10 := ok2.ll (by omega)
    refine GN ?_
    refine G_region ?_
    refine GQ (ev_move rfl) ?_
    refine GQ (ev_move rfl) ?_
    refine GQ (ev_len rfl) ?_
    (first | refine GQ (ev_lssN rfl rfl) ?_ | refine GQ (ev_lss rfl rfl) ?_)
    refine GQ (ev_move rfl) ?_
    refine GO_yes rfl rfl rfl (decide_eq_true (by omega)) ?_
    refine GQ (ev_move rfl) ?_
    refine GO_yes rfl rfl rfl (decide_eq_true (by omega)) ?_
    (first | refine GQ (ev_lssN (q := 70) rfl rfl) ?_ | refine GQ (ev_lss rfl rfl) ?_)
    refine GQ (ev_pick_t rfl (decide_eq_true (by omega)) rfl) ?_
    refine GO_nil ?_
    refine GN ?_
    refine G_cond_t rfl (decide_eq_true (by omega)) ?_
    refine GN ?_
    refine G_draw (.q 0 (.q 1 (.q 2 (.q 3 (.q 4 (.q 5 (.e 6 (.q 7 (.q 8 (.q 9 (.q 11 (.e 10 (.e 12 (.e 13 (.q 14 (.q 15 (.q 16 (.q 17 (.q 19 (.q 20 (.q 21 (.q 22 (.e 18 (.q 23 (.q 24 .nil))))))))))))))))))))))))) (by kernel_rfl) (by kernel_rfl) ?_
    refine RM rfl (ev_move rfl) ?_
    refine RM rfl (ev_move rfl) ?_
    refine RM rfl (ev_move rfl) ?_
    refine RM rfl (ev_move rfl) ?_
    (first | refine RM rfl (ev_indexAddrN rfl rfl NgA) ?_ | refine RM rfl (ev_indexAddr rfl rfl NgA NgA) ?_)
    refine RQ rfl (ev_loadN rfl LnA) ?_
    refine RS_e (RE_cmp (by kernel_rfl) rfl rfl rfl (eff_call rfl (Ctr.pre (M := lgF t 60 S :: rfF b21 60 S :: blk b3 35 [.int .i64 w.x1, .int .i64 w.x2, .int .i64 w.y1, .int .i64 w.y2] :: F :: L) EpA (D _))) ?_); rintro _ _ ⟨x, y, rfl, hx, hy, rfl⟩
    refine RM rfl (ev_not rfl) ?_
    refine RM rfl (ev_move rfl) ?_
    refine RS_m_yes retB_noPanic rfl rfl rfl rfl ⟨_, rfl, rfl⟩ rfl (ev_move rfl) ?_
    refine RS_m_yes retB_noPanic rfl rfl rfl rfl ⟨_, rfl, rfl⟩ rfl (ev_move rfl) ?_
    refine RS_e (RE_eff_yes rfl rfl rfl ⟨_, rfl, rfl⟩ rfl (eff_call rfl (JSizes_ctr hx LnA (by repeat' first | exact Rc.own (flat_length _) hx.A | apply Rd.skip) (fun o ho ↦ by repeat' first | exact hx.ats o ho | apply oat.skip) (by have := hx.cor.len; omega) (fun o ho ↦ by have := hx.toLgI.oLen htot o ho; omega))) ?_); rintro _ _ ⟨Y1, A1, d1, rfl, q1, q2, q3, rfl⟩; refine ⟨_, fun _ s => s, ExA, ?_⟩
    refine RS_e (RE_eff_yes rfl rfl rfl ⟨_, rfl, rfl⟩ rfl (eff_call rfl (KSizes_ctr hy LnA (by repeat' first | exact Rc.own (flat_length _) hy.A | apply Rd.skip) (by omega) (by omega))) ?_); rintro _ _ ⟨Y2, A2, d2, rfl, p1, p2, p3, rfl⟩; refine ⟨_, fun _ s => s, ExA, ?_⟩
    refine RS_e (RE_eff_yes rfl rfl rfl ⟨_, rfl, rfl⟩ rfl (eff_call rfl (Same_ctr A1 A2 _ _ d1 d2 _ _ _ (by repeat' first | exact q3 _ | apply Rd.skip) (by repeat' first | exact p3 _ | apply Rd.skip) (by unfold maxLen at q2; omega))) ?_); rintro _ _ ⟨rfl, rfl⟩; refine ⟨_, fun _ s => s, ExA, ?_⟩
    refine RS_m_yes retB_noPanic rfl rfl rfl rfl ⟨_, rfl, rfl⟩ rfl (ev_not rfl) ?_
    refine RM rfl (ev_pick_f rfl rfl rfl) ?_
    refine RM rfl (ev_move rfl) ?_
    refine RS_m_yes retB_noPanic rfl rfl rfl rfl ⟨_, rfl, (by simp)⟩ rfl (ev_move rfl) ?_
    refine RS_m_yes retB_noPanic rfl rfl rfl rfl ⟨_, rfl, (by simp)⟩ rfl (ev_move rfl) ?_
    (first | refine RS_m_yes retB_noPanic rfl rfl rfl rfl ⟨_, rfl, (by simp)⟩ rfl (ev_nilCheck rfl) ?_ | refine RS_m_yes retB_noPanic rfl rfl rfl rfl ⟨_, rfl, (by simp)⟩ rfl (ev_nilCheckF (by simp) rfl) ?_)
    refine RS_m_yes retB_noPanic rfl rfl rfl rfl ⟨_, rfl, (by simp)⟩ rfl (ev_fieldAddr rfl) ?_
    refine RS_q_yes retB_noPanic rfl rfl rfl rfl ⟨_, rfl, (by simp)⟩ rfl (ev_load rfl LdA) ?_
    refine RS_e (RE_eff_yes rfl rfl rfl ⟨_, rfl, (by simp)⟩ rfl (eff_call rfl (JBuilt_ctr hx LnA)) ?_); rintro _ _ ⟨rfl, rfl⟩; refine ⟨_, fun _ s => s, ExA, ?_⟩
    refine RS_m_yes retB_noPanic rfl rfl rfl rfl ⟨_, rfl, (by simp)⟩ rfl (ev_neq rfl rfl) ?_
    refine RM rfl (ev_pick_f rfl (by simp) rfl) ?_
    refine RS_nil ?_
    refine GN ?_
    refine G_cond_f rfl (by simp) ?_
    refine GN ?_
    refine GN ?_
    refine G_region ?_
    refine GQ (ev_move rfl) ?_
    (first | refine GQ (ev_addN (q := 1) rfl rfl NgA) ?_ | refine GQ (ev_add rfl rfl NgA) ?_)
    refine GQ (ev_assign rfl) ?_
    refine GO_nil ?_
    refine GN ?_
    refine G_round (k + 1) ⟨by omega, by omega⟩ (by omega) ⟨rfl, rfl, rfl, rfl, rfl, trivial⟩ ?_
    rw [s1]
    exact (by (repeat first | exact en_refl | refine en_lg x rfl rfl rfl rfl hx.toLgI ?_ | refine en_rf y rfl rfl rfl rfl hy ?_ | (apply en_blk; focus ((repeat' first | exact Pick.here | apply Pick.skip | apply Pick.app); done); focus rfl) | (apply en_own; focus ((repeat' first | exact Pick.here | apply Pick.skip | apply Pick.app); done); focus rfl) | (apply en_pick; focus ((repeat' first | exact Pick.here | apply Pick.skip | apply Pick.app); done)) | apply en_drop | apply en_app) <;> fail)
  · generalize playS 60 (acts.take k) = S at *
    have htot := ok.tot
    have hl10 := ok.ll (by omega)
    have hfew := ok.few
    by_cases c2 : k < n
    case' pos =>
      refine GN ?_
      refine G_region ?_
      refine GQ (ev_move rfl) ?_
      refine GQ (ev_move rfl) ?_
      refine GQ (ev_len rfl) ?_
      (first | refine GQ (ev_lssN rfl rfl) ?_ | refine GQ (ev_lss rfl rfl) ?_)
      refine GQ (ev_move rfl) ?_
      refine GO_yes rfl rfl rfl (decide_eq_true (by omega)) ?_
      refine GQ (ev_move rfl) ?_
      refine GO_yes rfl rfl rfl (decide_eq_true (by omega)) ?_
      (first | refine GQ (ev_lssN (q := 70) rfl rfl) ?_ | refine GQ (ev_lss rfl rfl) ?_)
      refine GQ (ev_pick_t rfl (decide_eq_true (by omega)) rfl) ?_
      refine GO_nil ?_
      refine GN ?_
      refine G_cond_f rfl (decide_eq_false (by omega)) ?_
    case' neg =>
      refine GN ?_
      refine G_region ?_
      refine GQ (ev_move rfl) ?_
      refine GQ (ev_move rfl) ?_
      refine GQ (ev_len rfl) ?_
      (first | refine GQ (ev_lssN rfl rfl) ?_ | refine GQ (ev_lss rfl rfl) ?_)
      refine GQ (ev_move rfl) ?_
      refine GO_no rfl rfl rfl (decide_eq_false (by omega)) ?_
      refine GO_no rfl rfl rfl (decide_eq_false (by omega)) ?_
      refine GQ (ev_pick_f rfl (decide_eq_false (by omega)) rfl) ?_
      refine GO_nil ?_
      refine GN ?_
      refine G_cond_f rfl rfl ?_
    all_goals
      refine G_lg fun x hx => ?_
      refine G_heap (L' := rfF b21 60 S :: lgO t 60 x S (blk b3 35 [.int .i64 w.x1, .int .i64 w.x2, .int .i64 w.y1, .int .i64 w.y2] :: F :: L)) EpA ?_
      refine G_rf fun y hy => ?_
      have hyd : ∀ X, Rd (pk y.N :: X) y.D S.d.length S.d := fun X => Rd.pk hy.dd
      have hdl : (idsB w S.d).length ≤ S.d.length := by rw [idsB_len]; exact List.length_filter_le ..
      have hR := fun b A c M h1 h2 => (RReport_ctr0 b A c 0 w S.d M h1 h2 (by omega)).y
      have hDe := fun M h => JDead_ctr (s := t) (most := 60) (L := M) hx ok (by omega) h w
      have eR : srt (hits (fun p => w.has p.x p.y) S.d) = idsB w S.d := rfl
      rw [eR] at hR
      generalize idsB w S.d = ids at *
      refine GN ?_
      refine G_region ?_
      refine GQ (ev_move rfl) ?_
      (first | refine GQ (ev_nilCheck rfl) ?_ | refine GQ (ev_nilCheckF (by simp) rfl) ?_)
      refine GQ (ev_fieldAddr rfl) ?_
      refine GQ (ev_load rfl LdA) ?_
      refine GQ (ev_build rfl rfl) ?_
      refine GE (eff_box rfl) ?_; rintro _ _ ⟨b62, rfl, rfl⟩
      refine GQ (ev_assign rfl) ?_
      refine GO_nil ?_
      refine GN ?_
      refine G_draw (.q 0 (.q 1 (.q 3 (.q 4 (.e 2 (.e 5 (.e 6 (.q 7 (.e 8 (.q 9 (.q 10 .nil))))))))))) (by kernel_rfl) (by kernel_rfl) ?_
      refine RM rfl (ev_move rfl) ?_
      refine RQ rfl (ev_loadN rfl LnA) ?_
      refine RM rfl (ev_move rfl) ?_
      refine RQ rfl (ev_loadN rfl LnA) ?_
      refine RS_e (RE_eff rfl rfl rfl (eff_call rfl (Ctr.pick PkA (hDe _ (by repeat' first | exact LdN.blk rfl | apply LdN.skip)))) ?_); rintro _ _ ⟨A65, c65, rfl, hA65, rfl⟩; refine ⟨_, fun _ s => s, ExA, ?_⟩
      refine RS_e (RE_eff rfl rfl rfl (eff_call rfl (hR b62 y.D y.e _ LnA (by repeat' first | exact hyd _ | apply Rd.skip))) ?_); rintro _ _ ⟨Y, A68, c68, rfl, i1, i2, i3, rfl⟩; refine ⟨_, fun _ s => s, ExA, ?_⟩
      refine RS_e (RE_eff rfl rfl rfl (eff_call rfl (Same_ctr A65 A68 _ _ c65 c68 _ _ _ (by repeat' first | exact Rc.own (flat_length _) hA65 | apply Rd.skip) (by repeat' first | exact i3 _ | apply Rd.skip) (by omega))) ?_); rintro _ _ ⟨rfl, rfl⟩; refine ⟨_, fun _ s => s, ExA, ?_⟩
      refine RM rfl (ev_move rfl) ?_
      refine RS_e (RE_eff_yes rfl rfl rfl ⟨_, rfl, (by simp)⟩ rfl (eff_call rfl (lives19_ctr _)) ?_); rintro _ _ ⟨rfl, X, rfl⟩; refine ⟨_, fun _ s => s, ExA, ?_⟩
      refine RM rfl (ev_pick_t rfl (by simp) rfl) ?_
      refine RM rfl (ev_assign rfl) ?_
      refine RS_nil ?_
      refine GN ?_
      exact G_ret (L' := L) rfl (.tmp rfl .nil) EnA ⟨rfl, rfl⟩
theorem logmTrees_walk (A : Option Addr) (n c : Nat) (ns : List Int) (w0 w1 w2 w3 : Int) (w : World) (hc : n ≤ c) (hc2 : c ≤ maxLen) (hb : Ints ns) (h1 : Reads w 5 A n (ints ns)) :
    Calls Tryz.prog 4 #[.slice A n c, .agg #[.int .i64 w0, .int .i64 w1, .int .i64 w2, .int .i64 w3]] w fun e w' => e = .returned (.bool true) ∧ Below w.heap.size w w' := by
  obtain ⟨l, hl, hk⟩ := rd_acts h1 hb
  exact law_of_ctr (LogmTrees_ctr A n c l ⟨w0, w1, w2, w3⟩ _ hl (by unfold maxLen at hc2; omega) hk)
end Go.Proofs.YtkoncepjfgnjlaaGreat
