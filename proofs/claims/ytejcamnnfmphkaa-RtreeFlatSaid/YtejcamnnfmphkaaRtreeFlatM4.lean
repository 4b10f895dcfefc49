/- Texts of the law RtreeFlat, one behind the other. -/
import Derived.Test.YtejcamnnfmphkaaRtreeFlatM2
import Derived.Test.YtejcamnnfmphkaaRtreeFlatM3
import Derived.Test.YtejcamnnfmphkaaRtreeFlatM1
import Derived.ChangeKeysEq
/- Two arrays together: what stands at each place (the plain part). -/
namespace Go.Proofs.Ytejcamnnfmphkaa
set_option linter.unusedVariables false
set_option linter.unusedSimpArgs false

theorem leP_refl (p : Pt) : leP p p := .inr ⟨rfl, .inr ⟨rfl, Int.le_refl _⟩⟩
/-- What an entry says. -/
def MA (i k : Int) (l m : List Pt) (j : Nat) (e : Ent) : Prop := ∃ u l' v m', l = u ++ l' ∧ m = v ++ m' ∧ u.length + v.length = j ∧ e.low = i + u.length ∧ e.high = k + v.length ∧ (∀ x ∈ u, leP x e.p) ∧ (∀ x ∈ v, leP x e.p) ∧ (∀ x ∈ l', leP e.p x) ∧ ∀ x ∈ m', leP e.p x
theorem mrg_inE {i k : Int} {l m : List Pt} {j : Nat} {e : Ent} (h : (mrg i k l m)[j]? = some e) : e.p ∈ l ++ m :=
  (mrg_perm i k l m).subset (List.mem_map.2 ⟨e, List.mem_of_getElem? h, rfl⟩)
theorem MA.left {i k : Int} {a : Pt} {l m : List Pt} (hl : ∀ x ∈ l, leP a x) (hm : ∀ x ∈ m, leP a x) (ih : ∀ j e, (mrg (i + 1) k l m)[j]? = some e → MA (i + 1) k l m j e) :
    ∀ j e, ((⟨a, i, k⟩ : Ent) :: mrg (i + 1) k l m)[j]? = some e → MA i k (a :: l) m j e
  | 0, e, h => by
    simp at h; subst h
    exact ⟨[], a :: l, [], m, rfl, rfl, rfl, by simp, by simp, by simp, by simp, fun x hx => (List.mem_cons.1 hx).elim (fun h => h ▸ leP_refl _) (hl x), hm⟩
  | j + 1, e, h => by
    have h : (mrg (i + 1) k l m)[j]? = some e := by simpa using h
    obtain ⟨u, l', v, m', rfl, rfl, h3, h4, h5, h6, h7, h8, h9⟩ := ih j e h
    refine ⟨a :: u, l', v, m', rfl, rfl, by simp; omega, by rw [h4]; simp; omega, h5, fun x hx => ?_, h7, h8, h9⟩
    rcases List.mem_cons.1 hx with rfl | hx
    · exact (List.mem_append.1 (mrg_inE h)).elim (hl _) (hm _)
    · exact h6 x hx
theorem MA.right {i k : Int} {b : Pt} {l m : List Pt} (hl : ∀ x ∈ l, leP b x) (hm : ∀ x ∈ m, leP b x) (ih : ∀ j e, (mrg i (k + 1) l m)[j]? = some e → MA i (k + 1) l m j e) :
    ∀ j e, ((⟨b, i, k⟩ : Ent) :: mrg i (k + 1) l m)[j]? = some e → MA i k l (b :: m) j e
  | 0, e, h => by
    simp at h; subst h
    exact ⟨[], l, [], b :: m, rfl, rfl, rfl, by simp, by simp, by simp, by simp, hl, fun x hx => (List.mem_cons.1 hx).elim (fun h => h ▸ leP_refl _) (hm x)⟩
  | j + 1, e, h => by
    have h : (mrg i (k + 1) l m)[j]? = some e := by simpa using h
    obtain ⟨u, l', v, m', rfl, rfl, h3, h4, h5, h6, h7, h8, h9⟩ := ih j e h
    refine ⟨u, l', b :: v, m', rfl, rfl, by simp; omega, h4, by rw [h5]; simp; omega, h6, fun x hx => ?_, h8, h9⟩
    rcases List.mem_cons.1 hx with rfl | hx
    · exact (List.mem_append.1 (mrg_inE h)).elim (hl _) (hm _)
    · exact h7 x hx
theorem mrg_at : ∀ (i k : Int) (l m : List Pt), l.Pairwise leP → m.Pairwise leP → ∀ j e, (mrg i k l m)[j]? = some e → MA i k l m j e
  | _, _, [], [], _, _, j, e, h => by simp [mrg] at h
  | i, k, a :: l, [], h1, h2, j, e, h => by
    have h1' := List.pairwise_cons.1 h1
    rw [mrg] at h
    exact MA.left h1'.1 (by simp) (mrg_at (i + 1) k l [] h1'.2 h2) j e h
  | i, k, [], b :: m, h1, h2, j, e, h => by
    have h2' := List.pairwise_cons.1 h2
    rw [mrg] at h
    exact MA.right (by simp) h2'.1 (mrg_at i (k + 1) [] m h1 h2'.2) j e h
  | i, k, a :: l, b :: m, h1, h2, j, e, h => by
    have h1' := List.pairwise_cons.1 h1
    have h2' := List.pairwise_cons.1 h2
    rw [mrg] at h
    split at h
    · rename_i hu
      have hu' := (up_leP _ _).1 hu
      exact MA.left h1'.1 (fun x hx => (List.mem_cons.1 hx).elim (fun h => h ▸ hu') (fun h => leP_trans hu' (h2'.1 x h))) (mrg_at (i + 1) k l (b :: m) h1'.2 h2) j e h
    · rename_i hu
      have hu' : leP b a := (leP_total b a).resolve_right fun h9 => hu ((up_leP _ _).2 h9)
      exact MA.right (fun x hx => (List.mem_cons.1 hx).elim (fun h => h ▸ hu') (fun h => leP_trans hu' (h1'.1 x h))) h2'.1 (mrg_at i (k + 1) (a :: l) m h1 h2'.2) j e h
  termination_by _ _ l m => l.length + m.length
theorem up_self (p : Pt) : up p p = 0 := by simp [up, Pt.cmp]
theorem aheadF_true {p q : Pt} (h : leP q p) : aheadF p true q = true := by
  have := (up_leP _ _).2 h
  unfold aheadF; simp; omega
theorem aheadF_false {p q : Pt} (h : leP p q) : aheadF p false q = false := by
  unfold aheadF
  simp only [Bool.and_false, Bool.or_false, decide_eq_false_iff_not]
  intro h9
  have := leP_anti h ((up_leP _ _).1 (by omega))
  subst this
  rw [up_self] at h9; omega
theorem MA.sides {l m : List Pt} {j : Nat} {e : Ent} (h : MA 0 0 l m j e) : 0 ≤ e.low ∧ 0 ≤ e.high ∧ e.low + e.high = j ∧ e.low ≤ l.length ∧ e.high ≤ m.length ∧ e.low ≤ l.countP (aheadF e.p true) ∧ e.high ≤ m.countP (aheadF e.p true) ∧ l.countP (aheadF e.p false) ≤ e.low ∧ m.countP (aheadF e.p false) ≤ e.high := by
  obtain ⟨u, l', v, m', rfl, rfl, h3, h4, h5, h6, h7, h8, h9⟩ := h
  have a1 : u.countP (aheadF e.p true) = u.length := List.countP_eq_length.2 fun x hx => aheadF_true (h6 x hx)
  have a2 : v.countP (aheadF e.p true) = v.length := List.countP_eq_length.2 fun x hx => aheadF_true (h7 x hx)
  have a3 : l'.countP (aheadF e.p false) = 0 := List.countP_eq_zero.2 fun x hx => by rw [aheadF_false (h8 x hx)]; simp
  have a4 : m'.countP (aheadF e.p false) = 0 := List.countP_eq_zero.2 fun x hx => by rw [aheadF_false (h9 x hx)]; simp
  have a5 := List.countP_le_length (p := aheadF e.p false) (l := u)
  have a6 := List.countP_le_length (p := aheadF e.p false) (l := v)
  rw [List.length_append, List.length_append, List.countP_append, List.countP_append, List.countP_append, List.countP_append]
  omega
theorem RT.of.srt : ∀ {T : RT} {l : List Pt}, T.of l → T.arr.pts.Pairwise leP
  | .nil, l, _ => .nil
  | .node b q a u v lo hi, l, ⟨_, _, h⟩ => by
    rcases h with ⟨p, rfl, _, _, rfl⟩ | ⟨h1, h2, h3, rfl⟩
    · exact List.pairwise_singleton _ _
    · show (join lo.arr hi.arr).pts.Pairwise leP
      unfold Arr.pts
      rw [join_es]
      exact mrg_sorted _ _ _ _ h2.srt h3.srt
theorem pairwise_next {α : Type} {R : α → α → Prop} {l : List α} (h : l.Pairwise R) {k : Nat} {a b : α} (ha : l[k]? = some a) (hb : l[k + 1]? = some b) : R a b := by
  obtain ⟨h1, rfl⟩ := List.getElem?_eq_some_iff.1 ha
  obtain ⟨h2, rfl⟩ := List.getElem?_eq_some_iff.1 hb
  exact List.pairwise_iff_getElem.1 h k (k + 1) h1 h2 (by omega)
end Go.Proofs.Ytejcamnnfmphkaa
/- A struct is equal to itself, whatever numbers, Bools and pointers it holds. No program stands in this text. -/
namespace Go.Proofs.Ytejcamnnfmphkaa
open Go.RowKit
set_option linter.unusedSimpArgs false
set_option linter.unusedVariables false
inductive Ck where
  | i
  | b
  | p
def ckB : Value → Ck → Bool
  | .int .i64 _, .i => true
  | .bool _, .b => true
  | .pointer _, .p => true
  | _, _ => false
def tyB : List Value → List Ck → Bool
  | [], [] => true
  | v :: vs, c :: cs => ckB v c && tyB vs cs
  | _, _ => false
theorem tyB_len : ∀ {vs : List Value} {cs : List Ck}, tyB vs cs = true → vs.length = cs.length
  | [], [], _ => rfl
  | [], _ :: _, h => by cases h
  | _ :: _, [], h => by cases h
  | v :: vs, c :: cs, h => by
    simp only [tyB, Bool.and_eq_true] at h
    simp [tyB_len h.2]
theorem tyB_drop : ∀ (k : Nat) {vs : List Value} {cs : List Ck}, tyB vs cs = true → tyB (vs.drop k) (cs.drop k) = true
  | 0, _, _, h => h
  | k + 1, [], [], _ => rfl
  | k + 1, [], _ :: _, h => by cases h
  | k + 1, _ :: _, [], h => by cases h
  | k + 1, v :: vs, c :: cs, h => by
    simp only [tyB, Bool.and_eq_true] at h
    exact tyB_drop k h.2
theorem tyB_take : ∀ (k : Nat) {vs : List Value} {cs : List Ck}, tyB vs cs = true → tyB (vs.take k) (cs.take k) = true
  | 0, _, _, _ => by simp [tyB]
  | k + 1, [], [], _ => by simp [tyB]
  | k + 1, [], _ :: _, h => by cases h
  | k + 1, _ :: _, [], h => by cases h
  | k + 1, v :: vs, c :: cs, h => by
    simp only [tyB, Bool.and_eq_true] at h
    simp only [List.take_succ_cons, tyB, h.1, tyB_take k h.2, Bool.and_self]
def oneCk : List Ck → Ck → Bool
  | [.i], .i => true
  | [.b], .b => true
  | [.p], .p => true
  | _, _ => false
theorem oneCk_len {ks : List Ck} {c : Ck} (h : oneCk ks c = true) : ks.length = 1 := by
  unfold oneCk at h
  split at h <;> first | rfl | cases h
theorem oneCk_eq {ks : List Ck} {c : Ck} (h : oneCk ks c = true) : ks = [c] := by
  unfold oneCk at h
  split at h <;> first | rfl | cases h
theorem tyB_one {vs : List Value} {c : Ck} (h : tyB vs [c] = true) : ∃ v, vs = [v] ∧ ckB v c = true := by
  match vs, h with
  | [], h => cases h
  | [v], h => exact ⟨v, rfl, by simpa [tyB] using h⟩
  | _ :: _ :: _, h => simp [tyB] at h
theorem ckB_i {v : Value} (h : ckB v .i = true) : ∃ n, v = .int .i64 n := by
  unfold ckB at h
  split at h <;> first | exact ⟨_, rfl⟩ | (rename_i e; cases e; done) | (cases h; done)
theorem ckB_b {v : Value} (h : ckB v .b = true) : ∃ n, v = .bool n := by
  unfold ckB at h
  split at h <;> first | exact ⟨_, rfl⟩ | (rename_i e; cases e; done) | (cases h; done)
theorem ckB_p {v : Value} (h : ckB v .p = true) : ∃ n, v = .pointer n := by
  unfold ckB at h
  split at h <;> first | exact ⟨_, rfl⟩ | (rename_i e; cases e; done) | (cases h; done)
/-- What a type's cells hold. -/
def reflT (P : Program) : Nat → TypeId → List Ck → Bool
  | 0, _, _ => false
  | k + 1, T, ks => match P.underlying T with
    | some (.int _) => oneB P T && oneCk ks .i
    | some .bool => oneB P T && oneCk ks .b
    | some (.pointer e) => oneB P T && oneCk ks .p && (P.info? e).isSome && !Nat.beq (P.cellsOf e) 0
    | some (.struct fs) => aggB P T ks.length && !P.stoodInHeld T && fs.toList.all fun f => Nat.ble (f.offset + P.cellsOf f.type) ks.length && reflT P k f.type ((ks.drop f.offset).take (P.cellsOf f.type))
    | some (.array n e) => aggB P T ks.length && (P.info? e).isSome && (List.range n).all fun j => Nat.ble (j * P.cellsOf e + P.cellsOf e) ks.length && reflT P k e ((ks.drop (j * P.cellsOf e)).take (P.cellsOf e))
    | _ => false
def aggT (P : Program) (T : TypeId) : Bool := match P.underlying T with
  | some (.struct _) => true
  | some (.array _ _) => true
  | _ => false
def valR (P : Program) (T : TypeId) (vs : List Value) : Value := if aggT P T then .agg vs.toArray else vs.headD undef
section
variable {P : Program}
theorem part_refl {k : Nat} {T : TypeId} {ks : List Ck} (h : reflT P k T ks = true) (vs : List Value) (off : Nat) (hx : off + ks.length ≤ vs.length) (w : World) :
    (part T vs.toArray off).run P w = .ok (valR P T ((vs.drop off).take ks.length)) w := by
  cases k with
  | zero => cases h
  | succ k =>
    unfold reflT at h
    unfold valR aggT
    have one : oneB P T = true → ks.length = 1 → (part T vs.toArray off).run P w = .ok (((vs.drop off).take ks.length).headD undef) w := fun h1 h2 => by
      rw [h2] at hx ⊢
      have hlt : off < vs.length := by omega
      have e3 : ((vs.drop off).take 1).headD undef = vs[off] := by rw [List.drop_eq_getElem_cons hlt]; rfl
      rw [e3]
      simp [part, (OneT.run ⟨h1⟩ w).1, hlt]
    have agg : aggB P T ks.length = true → (part T vs.toArray off).run P w = .ok (.agg ((vs.drop off).take ks.length).toArray) w := fun h1 => by
      obtain ⟨e1, e2⟩ := AggT.run (P := P) ⟨h1⟩ w
      simp only [part, Sem.run_bind, e1, Result.andThen_ok, if_true, e2, Sem.run_pure]
      congr 2
      rw [List.extract_toArray, List.extract_eq_take_drop, Nat.add_sub_cancel_left]
    cases hu : P.underlying T with
    | none => rw [hu] at h; cases h
    | some dd =>
      rw [hu] at h
      cases dd <;> first | (cases h; done) | skip
      all_goals simp only [Bool.and_eq_true] at h
      case bool => exact one h.1 (oneCk_len h.2)
      case int => exact one h.1 (oneCk_len h.2)
      case pointer => exact one h.1.1.1 (oneCk_len h.1.1.2)
      case struct => exact agg h.1.1
      case array => exact agg h.1.1
theorem refl_run : ∀ (k : Nat) (T : TypeId) (ks : List Ck), reflT P k T ks = true → ∀ (d : Nat), k ≤ d → ∀ (vs : List Value) (w : World), tyB vs ks = true → (Op.equalIn d T (valR P T vs) (valR P T vs)).run P w = .ok true w
  | 0, _, _, h, _, _, _, _, _ => by cases h
  | k + 1, T, ks, h, d, hd, vs, w, ht => by
    obtain ⟨d, rfl⟩ : ∃ e, d = e + 1 := ⟨d - 1, by omega⟩
    have hl := tyB_len ht
    unfold reflT at h
    unfold valR aggT
    cases hu : P.underlying T with
    | none => rw [hu] at h; cases h
    | some dd =>
      rw [hu] at h
      cases dd <;> first | (cases h; done) | skip
      all_goals simp only [Bool.and_eq_true] at h
      case bool =>
        have ek := oneCk_eq h.2
        subst ek
        obtain ⟨v, rfl, hv⟩ := tyB_one ht
        obtain ⟨b, rfl⟩ := ckB_b hv
        simpa using run_equalIn_bool w d T b b hu
      case int kk =>
        have ek := oneCk_eq h.2
        subst ek
        obtain ⟨v, rfl, hv⟩ := tyB_one ht
        obtain ⟨a, rfl⟩ := ckB_i hv
        simpa using run_equalIn_int w d T .i64 kk a a hu
      case pointer e =>
        obtain ⟨⟨⟨h1, h2⟩, h3⟩, h4⟩ := h
        obtain ⟨i, hi⟩ := Option.isSome_iff_exists.1 h3
        have hz : P.cellsOf e ≠ 0 := fun h0 => by rw [h0] at h4; cases h4
        have ek := oneCk_eq h2
        subst ek
        obtain ⟨v, rfl, hv⟩ := tyB_one ht
        obtain ⟨q, rfl⟩ := ckB_p hv
        · cases q with
          | none => simp [Op.equalIn, Sem.run_bind, run_underlying hu]
          | some a => simp [Op.equalIn, Sem.run_bind, run_underlying hu, run_sizeOf w hi, hz, sameAddr]
      case struct fs =>
        obtain ⟨⟨h1, h2⟩, h3⟩ := h
        simp only [Bool.not_eq_true'] at h2
        have hf : P.fieldsOf T = fs := by simp [Program.fieldsOf, hu]
        simp only [if_true]
        rw [run_equalIn_struct w _ T _ _ (by rw [hf]; exact hu) h2, hf]
        rw [List.all_eq_true] at h3
        generalize fs.toList = fl at h3
        induction fl with
        | nil => simp [Op.eqFields]
        | cons f fl ih =>
          have hh := h3 f (List.mem_cons_self ..)
          simp only [Bool.and_eq_true] at hh
          have hle := Nat.le_of_ble_eq_true hh.1
          have hlen : ((ks.drop f.offset).take (P.cellsOf f.type)).length = P.cellsOf f.type := by rw [List.length_take, List.length_drop]; omega
          have hp := part_refl hh.2 vs f.offset (by rw [hlen, hl]; exact hle) w
          rw [hlen] at hp
          have hr := refl_run k f.type _ hh.2 d (by omega) ((vs.drop f.offset).take (P.cellsOf f.type)) w (tyB_take _ (tyB_drop _ ht))
          unfold Op.eqFields
          split
          · simp only [Sem.run_bind, hp, Result.andThen_ok, hr, Bool.not_true, Bool.false_eq_true, if_false]
            exact ih fun g hg => h3 g (List.mem_cons_of_mem _ hg)
          · exact ih fun g hg => h3 g (List.mem_cons_of_mem _ hg)
      case array n e =>
        obtain ⟨⟨h1, h2⟩, h3⟩ := h
        obtain ⟨i, hi⟩ := Option.isSome_iff_exists.1 h2
        simp only [if_true]
        rw [run_equalIn_array w d vs.toArray vs.toArray hu hi]
        rw [List.all_eq_true] at h3
        generalize List.range n = fl at h3
        induction fl with
        | nil => simp [Op.eqItems]
        | cons j fl ih =>
          have hh := h3 j (List.mem_cons_self ..)
          simp only [Bool.and_eq_true] at hh
          have hle := Nat.le_of_ble_eq_true hh.1
          have hlen : ((ks.drop (j * P.cellsOf e)).take (P.cellsOf e)).length = P.cellsOf e := by rw [List.length_take, List.length_drop]; omega
          have hp := part_refl hh.2 vs (j * P.cellsOf e) (by rw [hlen, hl]; exact hle) w
          rw [hlen] at hp
          have hr := refl_run k e _ hh.2 d (by omega) ((vs.drop (j * P.cellsOf e)).take (P.cellsOf e)) w (tyB_take _ (tyB_drop _ ht))
          unfold Op.eqItems
          simp only [Sem.run_bind, hp, Result.andThen_ok, hr, Bool.not_true, Bool.false_eq_true, if_false]
          exact ih fun g hg => h3 g (List.mem_cons_of_mem _ hg)
def reflB (P : Program) (T : TypeId) (ks : List Ck) : Bool := aggT P T && reflT P 8 T ks && !P.eqGuardType P.depth T
class ReflT (P : Program) (T : TypeId) (ks : outParam (List Ck)) : Prop where
  h : reflB P T ks = true
variable {L : List HP} {σ : Env} {d : Option Nat} {ty T T' : TypeId} {pos : String} {aft : Array Edge} {gd : Option (Nat × Bool)} {x y : Operand}
theorem ev_eqlR {ks : List Ck} {cs : List Value} [H : ReflT P T ks] (hx : ev σ x = some (.agg cs.toArray)) (hy : ev σ y = some (.agg cs.toArray)) (h1 : tyB cs ks = true) : Ev P L σ ⟨d, .binOp .eql T x y T', ty, pos, aft, gd⟩ (.bool true) := by
  have h := H.h
  unfold reflB at h
  simp only [Bool.and_eq_true, Bool.not_eq_true'] at h
  obtain ⟨⟨h2, h3⟩, h4⟩ := h
  refine bin_run' _ _ _ _ (fun w => run_eqGuard_agg w _ _ _ _ _ _ h4) hx hy fun w => ?_
  show ((do pure (.bool (← Op.equal T (.agg cs.toArray) (.agg cs.toArray))) : Sem Value)).run P w = _
  have key := refl_run 8 T ks h3 Op.maxDepth (by decide) cs w h1
  unfold valR at key
  rw [if_pos h2] at key
  have key2 : (Op.equal T (.agg cs.toArray) (.agg cs.toArray)).run P w = .ok true w := key
  simp only [Sem.run_bind, key2, Result.andThen_ok, Sem.run_pure]
end
end Go.Proofs.Ytejcamnnfmphkaa
/- A tree of lists that lead into one another: Check tells true. -/
namespace Go.Proofs.Ytejcamnnfmphkaa
attribute [local irreducible] sat
set_option linter.unusedVariables false
set_option linter.unusedSimpArgs false
set_option maxRecDepth 100000

theorem join_node {a b : Arr} (h : 0 < a.es.length) : join a b = .node (mrg 0 0 a.pts b.pts) a b := by
  cases a with
  | nil => simp [Arr.es] at h
  | node => rfl
theorem asound_ctr : ∀ (T : RT) (l : List Pt) (L : List HP) (q : Option Addr), T.of l → l.length ≤ 100000 → ArrIn L q T.arr → Ctr Try.prog 60 #[.pointer q] L fun v L' => v = .bool true ∧ L' = L
  | .nil, l, L, q, _, _, h => by
    have e : q = none := h
    subst e
    exact sound_nil L
  | .node b p a u v lo hi, l, L, q, ho, hn, h => by
    have hlen : a.es.length = l.length := ho.len
    obtain ⟨_, _, hh⟩ := ho
    rcases hh with ⟨p, rfl, rfl, rfl, rfl⟩ | ⟨g1, g2, g3, rfl⟩
    · refine sound_leaf q _ L h (by simp) (fun k e f h1 h2 => ?_) (fun k e h1 => ?_)
      · simp at h2
      · match k with
        | 0 => simp at h1; subst h1; exact ⟨Int.le_refl _, Int.le_refl _⟩
        | k + 1 => simp at h1
    · have n1 : lo.arr.es.length = (l.take ((l.length + 1) / 2)).length := g2.len
      have n2 : hi.arr.es.length = (l.drop ((l.length + 1) / 2)).length := g3.len
      rw [List.length_take] at n1
      rw [List.length_drop] at n2
      have hp : 0 < lo.arr.es.length := by omega
      have ih1 := fun M q => asound_ctr lo _ M q g2 (by rw [List.length_take]; omega)
      have ih2 := fun M q => asound_ctr hi _ M q g3 (by rw [List.length_drop]; omega)
      have s1 := g2.srt
      have s2 := g3.srt
      have e1 : lo.arr.pts.length = lo.arr.es.length := List.length_map _
      have e2 : hi.arr.pts.length = hi.arr.es.length := List.length_map _
      have hm := mrg_length 0 0 lo.arr.pts hi.arr.pts
      have h' : ArrIn L q (join lo.arr hi.arr) := h
      rw [join_node hp] at h'
      refine sound_join q _ _ _ L h' (fun e => by rw [e] at hp; simp [Arr.es] at hp) (by omega) (by omega) (by omega) (fun k e f h1 h2 => ?_) (fun k e h1 => ?_) (by omega) ih1 ih2
      · refine (up_leP _ _).2 (pairwise_next (mrg_sorted 0 0 _ _ s1 s2) (k := k) ?_ ?_)
        · rw [List.getElem?_map, h1]; rfl
        · rw [List.getElem?_map, h2]; rfl
      · have := (mrg_at 0 0 _ _ s1 s2 k e h1).sides
        rw [e1, e2] at this
        exact this
instance : ReflT Try.prog 74 [.p, .p] := ⟨by kernel_rfl⟩
theorem rsound_ctr : ∀ (T : RT) (l : List Pt) (A : Option Addr) (n c : Nat) (L : List HP), RIn L T → T.of l → n ≤ 100000 → Rd L A n l → n ≤ c → c ≤ maxLen →
    Ctr Try.prog 43 #[.pointer T.addr, .slice A n c] L fun v L' => v = .bool true ∧ L' = L
  | .nil, l, A, n, c, L, h, ho, hn, hl, hc, hc2 => by
    have h1 : l.length = n := hl.len (by decide)
    have e : l = [] := ho
    subst e
    simp at h1
    subst h1
    refine Ctr_of (fn := Try.f43) (n := 77) Try.func43 rfl rfl rfl ?_
    intro g F
    (repeat first | refine G_seq ?_ | refine G_skip ?_ | refine G_endblk ?_ | refine G_block ?_ | refine G_exit rfl ?_)
    refine G_region ?_
    refine GO_q rfl rfl (ev_assign rfl) ?_
    refine GO_nil ?_
    (repeat first | refine G_seq ?_ | refine G_skip ?_ | refine G_endblk ?_ | refine G_block ?_ | refine G_exit rfl ?_)
    refine G_region ?_
    refine GO_q rfl rfl (ev_move rfl) ?_
    (first | refine GO_q rfl rfl (ev_eqlNil rfl rfl) ?_ | refine GO_q rfl rfl (ev_eqlPtr rfl rfl) ?_)
    refine GO_nil ?_
    (repeat first | refine G_seq ?_ | refine G_skip ?_ | refine G_endblk ?_ | refine G_block ?_ | refine G_exit rfl ?_)
    refine G_cond_t rfl rfl ?_
    (repeat first | refine G_seq ?_ | refine G_skip ?_ | refine G_endblk ?_ | refine G_block ?_ | refine G_exit rfl ?_)
    refine G_region ?_
    refine GO_q rfl rfl (ev_move rfl) ?_
    refine GO_q rfl rfl (ev_len rfl) ?_
    refine GO_q rfl rfl (ev_eql rfl rfl) ?_
    refine GO_q rfl rfl (ev_assign rfl) ?_
    refine GO_nil ?_
    (repeat first | refine G_seq ?_ | refine G_skip ?_ | refine G_endblk ?_ | refine G_block ?_ | refine G_exit rfl ?_)
    refine G_ret rfl (.tmp rfl .nil) (by (repeat first | exact fun _ s => s | apply en_keep | apply en_drop | apply en_app) <;> fail) ⟨rfl, rfl⟩
  | .node b q a u v lo hi, l, A, n, c, L, h, ho, hn, hl, hc, hc2 => by
    have h1 : l.length = n := hl.len (by decide)
    have hlen : a.es.length = l.length := ho.len
    obtain ⟨⟨pf, g0, eu⟩, ⟨pg, g1, ev⟩, hh⟩ := ho
    have hpos : 0 < n := by have := (List.getElem?_eq_some_iff.1 g0).1; omega
    obtain ⟨z, ha, i1, i2⟩ := h
    have w0 : Ld L ⟨b, 0 + 0, none⟩ (.pointer q) := z.at_ (i := 0) rfl
    have w1 : Ld L ⟨b, 0 + 1, none⟩ (.int .i64 u) := z.at_ (i := 1) rfl
    have w2 : Ld L ⟨b, 0 + 2, none⟩ (.int .i64 v) := z.at_ (i := 2) rfl
    have w3 : Ld L ⟨b, 0 + 3 + 0 * 1, none⟩ (.pointer lo.addr) := z.at_ (i := 3) rfl
    have w4 : Ld L ⟨b, 0 + 3 + 1 * 1, none⟩ (.pointer hi.addr) := z.at_ (i := 4) rfl
    obtain ⟨bb, o, rfl, hx⟩ := hl.at_ hpos
    rw [h1] at g1
    have y0 : LdN L bb (o + 0 * 3) 3 [.int .i64 pf.id, .int .i64 pf.x, .int .i64 pf.y] := hx _ _ g0
    have y1 : LdN L bb (o + (n - 1) * 3) 3 [.int .i64 pg.id, .int .i64 pg.x, .int .i64 pg.y] := hx _ _ g1
    have x0 : Ld L ⟨bb, o + 0 * 3 + 1, none⟩ (.int .i64 pf.x) := y0.at_ (i := 1) rfl
    have x1 : Ld L ⟨bb, o + (n - 1) * 3 + 1, none⟩ (.int .i64 pg.x) := y1.at_ (i := 1) rfl
    have hL := fun M (h : ArrIn M q a) => Len_ctr q a M h
    rw [hlen, h1] at hL
    subst eu ev
    rcases hh with ⟨p, rfl, rfl, rfl, rfl⟩ | ⟨k1, k2, k3, k4⟩
    · simp at h1
      subst h1
      simp at g0 g1
      subst g0 g1
      have w5 : LdN L b (0 + 3) 2 [.pointer none, .pointer none] := ⟨rfl, fun j v hj => by
        match j with
        | 0 => simp at hj; subst hj; exact w3
        | 1 => simp at hj; subst hj; exact w4
        | j + 2 => simp at hj⟩
      refine Ctr_of (fn := Try.f43) (n := 77) Try.func43 rfl rfl rfl ?_
      intro g F
      (repeat first | refine G_seq ?_ | refine G_skip ?_ | refine G_endblk ?_ | refine G_block ?_ | refine G_exit rfl ?_)
      refine G_region ?_
      refine GO_q rfl rfl (ev_assign rfl) ?_
      refine GO_nil ?_
      (repeat first | refine G_seq ?_ | refine G_skip ?_ | refine G_endblk ?_ | refine G_block ?_ | refine G_exit rfl ?_)
      refine G_region ?_
      refine GO_q rfl rfl (ev_move rfl) ?_
      (first | refine GO_q rfl rfl (ev_eqlNil rfl rfl) ?_ | refine GO_q rfl rfl (ev_eqlPtr rfl rfl) ?_)
      refine GO_nil ?_
      (repeat first | refine G_seq ?_ | refine G_skip ?_ | refine G_endblk ?_ | refine G_block ?_ | refine G_exit rfl ?_)
      refine G_cond_f rfl rfl ?_
      (repeat first | refine G_seq ?_ | refine G_skip ?_ | refine G_endblk ?_ | refine G_block ?_ | refine G_exit rfl ?_)
      refine G_draw (.q 0 (.q 1 (.q 2 (.q 3 (.q 5 (.q 6 (.e 4 (.q 7 (.q 8 (.q 9 (.q 10 (.q 11 (.q 12 (.q 13 (.q 14 (.q 15 (.q 16 (.q 17 (.q 18 (.q 19 (.q 20 (.q 21 (.q 22 (.q 23 (.q 24 (.q 25 (.q 26 (.q 27 (.q 28 (.q 29 (.q 30 (.q 31 (.q 32 .nil))))))))))))))))))))))))))))))))) (by kernel_rfl) (by kernel_rfl) ?_
      refine RS_m retB_noPanic rfl rfl rfl rfl (ev_move rfl) ?_
      (first | refine RS_m retB_noPanic rfl rfl rfl rfl (ev_nilCheck rfl) ?_ | refine RS_m retB_noPanic rfl rfl rfl rfl (ev_nilCheckF (by simp) rfl) ?_)
      refine RS_m retB_noPanic rfl rfl rfl rfl (ev_fieldAddr rfl) ?_
      refine RS_q retB_noPanic rfl rfl rfl rfl (ev_load rfl (by repeat' first | exact Ld.blk rfl | assumption | apply Ld.skip | apply Ld.app)) ?_
      refine RS_m retB_noPanic rfl rfl rfl rfl (ev_move rfl) ?_
      refine RS_q retB_noPanic rfl rfl rfl rfl (ev_len rfl) ?_
      refine RS_e (RE_eff rfl rfl rfl (eff_call rfl (hL _ ha.skip)) ?_); rintro _ _ ⟨rfl, rfl⟩; refine ⟨_, fun _ s => s, (by first | ((repeat first | exact fun _ s => s | apply en_keep | apply en_drop | apply en_app) <;> fail) | ((repeat first | exact en_refl | (apply en_blk; focus ((repeat' first | exact Pick.here | apply Pick.skip | apply Pick.app); done); focus rfl) | (apply en_own; focus ((repeat' first | exact Pick.here | apply Pick.skip | apply Pick.app); done); focus rfl) | (apply en_pick; focus ((repeat' first | exact Pick.here | apply Pick.skip | apply Pick.app); done)) | apply en_drop | apply en_app) <;> fail)), ?_⟩
      refine RS_m retB_noPanic rfl rfl rfl rfl (ev_neq rfl rfl) ?_
      refine RS_m retB_noPanic rfl rfl rfl rfl (ev_move rfl) ?_
      refine RS_m_yes retB_noPanic rfl rfl rfl rfl ⟨_, rfl, (by simp)⟩ rfl (ev_move rfl) ?_
      (first | refine RS_m_yes retB_noPanic rfl rfl rfl rfl ⟨_, rfl, (by simp)⟩ rfl (ev_nilCheck rfl) ?_ | refine RS_m_yes retB_noPanic rfl rfl rfl rfl ⟨_, rfl, (by simp)⟩ rfl (ev_nilCheckF (by simp) rfl) ?_)
      refine RS_m_yes retB_noPanic rfl rfl rfl rfl ⟨_, rfl, (by simp)⟩ rfl (ev_fieldAddr rfl) ?_
      refine RS_q_yes retB_noPanic rfl rfl rfl rfl ⟨_, rfl, (by simp)⟩ rfl (ev_load rfl (by repeat' first | exact Ld.blk rfl | assumption | apply Ld.skip | apply Ld.app)) ?_
      refine RS_m_yes retB_noPanic rfl rfl rfl rfl ⟨_, rfl, (by simp)⟩ rfl (ev_move rfl) ?_
      (first | refine RS_m_yes retB_noPanic rfl rfl rfl rfl ⟨_, rfl, (by simp)⟩ rfl (ev_indexAddrN rfl rfl (by first | omega | (simp; done) | (simp; omega))) ?_ | refine RS_m_yes retB_noPanic rfl rfl rfl rfl ⟨_, rfl, (by simp)⟩ rfl (ev_indexAddr rfl rfl (by first | omega | (simp; done) | (simp; omega)) (by first | omega | (simp; done) | (simp; omega))) ?_)
      refine RS_m_yes retB_noPanic rfl rfl rfl rfl ⟨_, rfl, (by simp)⟩ rfl (ev_fieldAddr rfl) ?_
      refine RS_q_yes retB_noPanic rfl rfl rfl rfl ⟨_, rfl, (by simp)⟩ rfl (ev_load rfl (by repeat' first | exact Ld.blk rfl | assumption | apply Ld.skip | apply Ld.app)) ?_
      refine RS_m_yes retB_noPanic rfl rfl rfl rfl ⟨_, rfl, (by simp)⟩ rfl (ev_neq rfl rfl) ?_
      refine RS_m retB_noPanic rfl rfl rfl rfl (ev_pick_f rfl (by simp) rfl) ?_
      refine RS_m retB_noPanic rfl rfl rfl rfl (ev_move rfl) ?_
      refine RS_m_yes retB_noPanic rfl rfl rfl rfl ⟨_, rfl, (by simp)⟩ rfl (ev_move rfl) ?_
      (first | refine RS_m_yes retB_noPanic rfl rfl rfl rfl ⟨_, rfl, (by simp)⟩ rfl (ev_nilCheck rfl) ?_ | refine RS_m_yes retB_noPanic rfl rfl rfl rfl ⟨_, rfl, (by simp)⟩ rfl (ev_nilCheckF (by simp) rfl) ?_)
      refine RS_m_yes retB_noPanic rfl rfl rfl rfl ⟨_, rfl, (by simp)⟩ rfl (ev_fieldAddr rfl) ?_
      refine RS_q_yes retB_noPanic rfl rfl rfl rfl ⟨_, rfl, (by simp)⟩ rfl (ev_load rfl (by repeat' first | exact Ld.blk rfl | assumption | apply Ld.skip | apply Ld.app)) ?_
      refine RS_m_yes retB_noPanic rfl rfl rfl rfl ⟨_, rfl, (by simp)⟩ rfl (ev_move rfl) ?_
      refine RS_m_yes retB_noPanic rfl rfl rfl rfl ⟨_, rfl, (by simp)⟩ rfl (ev_move rfl) ?_
      refine RS_q_yes retB_noPanic rfl rfl rfl rfl ⟨_, rfl, (by simp)⟩ rfl (ev_len rfl) ?_
      (first | refine RS_m_yes retB_noPanic rfl rfl rfl rfl ⟨_, rfl, (by simp)⟩ rfl (ev_subN (q := 1) rfl rfl (by first | omega | (simp; done) | (simp; omega))) ?_ | refine RS_m_yes retB_noPanic rfl rfl rfl rfl ⟨_, rfl, (by simp)⟩ rfl (ev_sub rfl rfl (by first | omega | (simp; done) | (simp; omega))) ?_)
      (first | refine RS_m_yes retB_noPanic rfl rfl rfl rfl ⟨_, rfl, (by simp)⟩ rfl (ev_indexAddrN rfl rfl (by first | omega | (simp; done) | (simp; omega))) ?_ | refine RS_m_yes retB_noPanic rfl rfl rfl rfl ⟨_, rfl, (by simp)⟩ rfl (ev_indexAddr rfl rfl (by first | omega | (simp; done) | (simp; omega)) (by first | omega | (simp; done) | (simp; omega))) ?_)
      refine RS_m_yes retB_noPanic rfl rfl rfl rfl ⟨_, rfl, (by simp)⟩ rfl (ev_fieldAddr rfl) ?_
      refine RS_q_yes retB_noPanic rfl rfl rfl rfl ⟨_, rfl, (by simp)⟩ rfl (ev_load rfl (by repeat' first | exact Ld.blk rfl | assumption | apply Ld.skip | apply Ld.app)) ?_
      refine RS_m_yes retB_noPanic rfl rfl rfl rfl ⟨_, rfl, (by simp)⟩ rfl (ev_neq rfl rfl) ?_
      refine RS_m retB_noPanic rfl rfl rfl rfl (ev_pick_f rfl (by simp) rfl) ?_
      refine RS_nil ?_
      (repeat first | refine G_seq ?_ | refine G_skip ?_ | refine G_endblk ?_ | refine G_block ?_ | refine G_exit rfl ?_)
      refine G_cond_f rfl (by simp) ?_
      (repeat first | refine G_seq ?_ | refine G_skip ?_ | refine G_endblk ?_ | refine G_block ?_ | refine G_exit rfl ?_)
      refine G_region ?_
      refine GO_q rfl rfl (ev_move rfl) ?_
      refine GO_q rfl rfl (ev_len rfl) ?_
      refine GO_q rfl rfl (ev_eql rfl rfl) ?_
      refine GO_nil ?_
      (repeat first | refine G_seq ?_ | refine G_skip ?_ | refine G_endblk ?_ | refine G_block ?_ | refine G_exit rfl ?_)
      refine G_cond_t rfl rfl ?_
      (repeat first | refine G_seq ?_ | refine G_skip ?_ | refine G_endblk ?_ | refine G_block ?_ | refine G_exit rfl ?_)
      refine G_region ?_
      refine GO_q rfl rfl (ev_move rfl) ?_
      (first | refine GO_q rfl rfl (ev_nilCheck rfl) ?_ | refine GO_q rfl rfl (ev_nilCheckF (by simp) rfl) ?_)
      refine GO_q rfl rfl (ev_fieldAddr rfl) ?_
      refine GO_q rfl rfl (ev_loadN rfl (by repeat' first | exact LdN.blk rfl | assumption | apply LdN.skip | apply LdN.app)) ?_
      refine GO_q rfl rfl (ev_buildA rfl rfl) ?_
      refine GO_q rfl rfl (ev_eqlR rfl rfl rfl) ?_
      refine GO_q rfl rfl (ev_assign rfl) ?_
      refine GO_nil ?_
      (repeat first | refine G_seq ?_ | refine G_skip ?_ | refine G_endblk ?_ | refine G_block ?_ | refine G_exit rfl ?_)
      refine G_ret rfl (.tmp rfl .nil) (by (repeat first | exact fun _ s => s | apply en_keep | apply en_drop | apply en_app) <;> fail) ⟨rfl, rfl⟩
    · have m1 := hl.take (k := (n + 1) / 2) (by omega)
      have m2 := hl.drop (k := (n + 1) / 2) (c := c) (by omega) hc
      rw [h1] at k2 k3
      have s1 := fun M (h : RIn M lo) (h' : Rd M (some ⟨bb, o, none⟩) ((n + 1) / 2) (l.take ((n + 1) / 2))) => rsound_ctr lo _ _ ((n + 1) / 2) c M h k2 (by omega) h' (by omega) hc2
      have s2 := fun M (h : RIn M hi) (h' : Rd M (some ⟨bb, if c = (n + 1) / 2 then o else o + (n + 1) / 2 * Enc.sz Pt, none⟩) (n - (n + 1) / 2) (l.drop ((n + 1) / 2))) => rsound_ctr hi _ _ (n - (n + 1) / 2) (c - (n + 1) / 2) M h k3 (by omega) h' (by omega) (by omega)
      generalize hmid : (n + 1) / 2 = mid at *
      unfold maxLen at hc2
      refine Ctr_of (fn := Try.f43) (n := 77) Try.func43 rfl rfl rfl ?_
      intro g F
      (repeat first | refine G_seq ?_ | refine G_skip ?_ | refine G_endblk ?_ | refine G_block ?_ | refine G_exit rfl ?_)
      refine G_region ?_
      refine GO_q rfl rfl (ev_assign rfl) ?_
      refine GO_nil ?_
      (repeat first | refine G_seq ?_ | refine G_skip ?_ | refine G_endblk ?_ | refine G_block ?_ | refine G_exit rfl ?_)
      refine G_region ?_
      refine GO_q rfl rfl (ev_move rfl) ?_
      (first | refine GO_q rfl rfl (ev_eqlNil rfl rfl) ?_ | refine GO_q rfl rfl (ev_eqlPtr rfl rfl) ?_)
      refine GO_nil ?_
      (repeat first | refine G_seq ?_ | refine G_skip ?_ | refine G_endblk ?_ | refine G_block ?_ | refine G_exit rfl ?_)
      refine G_cond_f rfl rfl ?_
      (repeat first | refine G_seq ?_ | refine G_skip ?_ | refine G_endblk ?_ | refine G_block ?_ | refine G_exit rfl ?_)
      refine G_draw (.q 0 (.q 1 (.q 2 (.q 3 (.q 5 (.q 6 (.e 4 (.q 7 (.q 8 (.q 9 (.q 10 (.q 11 (.q 12 (.q 13 (.q 14 (.q 15 (.q 16 (.q 17 (.q 18 (.q 19 (.q 20 (.q 21 (.q 22 (.q 23 (.q 24 (.q 25 (.q 26 (.q 27 (.q 28 (.q 29 (.q 30 (.q 31 (.q 32 .nil))))))))))))))))))))))))))))))))) (by kernel_rfl) (by kernel_rfl) ?_
      refine RS_m retB_noPanic rfl rfl rfl rfl (ev_move rfl) ?_
      (first | refine RS_m retB_noPanic rfl rfl rfl rfl (ev_nilCheck rfl) ?_ | refine RS_m retB_noPanic rfl rfl rfl rfl (ev_nilCheckF (by simp) rfl) ?_)
      refine RS_m retB_noPanic rfl rfl rfl rfl (ev_fieldAddr rfl) ?_
      refine RS_q retB_noPanic rfl rfl rfl rfl (ev_load rfl (by repeat' first | exact Ld.blk rfl | assumption | apply Ld.skip | apply Ld.app)) ?_
      refine RS_m retB_noPanic rfl rfl rfl rfl (ev_move rfl) ?_
      refine RS_q retB_noPanic rfl rfl rfl rfl (ev_len rfl) ?_
      refine RS_e (RE_eff rfl rfl rfl (eff_call rfl (hL _ ha.skip)) ?_); rintro _ _ ⟨rfl, rfl⟩; refine ⟨_, fun _ s => s, (by first | ((repeat first | exact fun _ s => s | apply en_keep | apply en_drop | apply en_app) <;> fail) | ((repeat first | exact en_refl | (apply en_blk; focus ((repeat' first | exact Pick.here | apply Pick.skip | apply Pick.app); done); focus rfl) | (apply en_own; focus ((repeat' first | exact Pick.here | apply Pick.skip | apply Pick.app); done); focus rfl) | (apply en_pick; focus ((repeat' first | exact Pick.here | apply Pick.skip | apply Pick.app); done)) | apply en_drop | apply en_app) <;> fail)), ?_⟩
      refine RS_m retB_noPanic rfl rfl rfl rfl (ev_neq rfl rfl) ?_
      refine RS_m retB_noPanic rfl rfl rfl rfl (ev_move rfl) ?_
      refine RS_m_yes retB_noPanic rfl rfl rfl rfl ⟨_, rfl, (by simp)⟩ rfl (ev_move rfl) ?_
      (first | refine RS_m_yes retB_noPanic rfl rfl rfl rfl ⟨_, rfl, (by simp)⟩ rfl (ev_nilCheck rfl) ?_ | refine RS_m_yes retB_noPanic rfl rfl rfl rfl ⟨_, rfl, (by simp)⟩ rfl (ev_nilCheckF (by simp) rfl) ?_)
      refine RS_m_yes retB_noPanic rfl rfl rfl rfl ⟨_, rfl, (by simp)⟩ rfl (ev_fieldAddr rfl) ?_
      refine RS_q_yes retB_noPanic rfl rfl rfl rfl ⟨_, rfl, (by simp)⟩ rfl (ev_load rfl (by repeat' first | exact Ld.blk rfl | assumption | apply Ld.skip | apply Ld.app)) ?_
      refine RS_m_yes retB_noPanic rfl rfl rfl rfl ⟨_, rfl, (by simp)⟩ rfl (ev_move rfl) ?_
      (first | refine RS_m_yes retB_noPanic rfl rfl rfl rfl ⟨_, rfl, (by simp)⟩ rfl (ev_indexAddrN rfl rfl (by first | omega | (simp; done) | (simp; omega))) ?_ | refine RS_m_yes retB_noPanic rfl rfl rfl rfl ⟨_, rfl, (by simp)⟩ rfl (ev_indexAddr rfl rfl (by first | omega | (simp; done) | (simp; omega)) (by first | omega | (simp; done) | (simp; omega))) ?_)
      refine RS_m_yes retB_noPanic rfl rfl rfl rfl ⟨_, rfl, (by simp)⟩ rfl (ev_fieldAddr rfl) ?_
      refine RS_q_yes retB_noPanic rfl rfl rfl rfl ⟨_, rfl, (by simp)⟩ rfl (ev_load rfl (by repeat' first | exact Ld.blk rfl | assumption | apply Ld.skip | apply Ld.app)) ?_
      refine RS_m_yes retB_noPanic rfl rfl rfl rfl ⟨_, rfl, (by simp)⟩ rfl (ev_neq rfl rfl) ?_
      refine RS_m retB_noPanic rfl rfl rfl rfl (ev_pick_f rfl (by simp) rfl) ?_
      refine RS_m retB_noPanic rfl rfl rfl rfl (ev_move rfl) ?_
      refine RS_m_yes retB_noPanic rfl rfl rfl rfl ⟨_, rfl, (by simp)⟩ rfl (ev_move rfl) ?_
      (first | refine RS_m_yes retB_noPanic rfl rfl rfl rfl ⟨_, rfl, (by simp)⟩ rfl (ev_nilCheck rfl) ?_ | refine RS_m_yes retB_noPanic rfl rfl rfl rfl ⟨_, rfl, (by simp)⟩ rfl (ev_nilCheckF (by simp) rfl) ?_)
      refine RS_m_yes retB_noPanic rfl rfl rfl rfl ⟨_, rfl, (by simp)⟩ rfl (ev_fieldAddr rfl) ?_
      refine RS_q_yes retB_noPanic rfl rfl rfl rfl ⟨_, rfl, (by simp)⟩ rfl (ev_load rfl (by repeat' first | exact Ld.blk rfl | assumption | apply Ld.skip | apply Ld.app)) ?_
      refine RS_m_yes retB_noPanic rfl rfl rfl rfl ⟨_, rfl, (by simp)⟩ rfl (ev_move rfl) ?_
      refine RS_m_yes retB_noPanic rfl rfl rfl rfl ⟨_, rfl, (by simp)⟩ rfl (ev_move rfl) ?_
      refine RS_q_yes retB_noPanic rfl rfl rfl rfl ⟨_, rfl, (by simp)⟩ rfl (ev_len rfl) ?_
      (first | refine RS_m_yes retB_noPanic rfl rfl rfl rfl ⟨_, rfl, (by simp)⟩ rfl (ev_subN (q := 1) rfl rfl (by first | omega | (simp; done) | (simp; omega))) ?_ | refine RS_m_yes retB_noPanic rfl rfl rfl rfl ⟨_, rfl, (by simp)⟩ rfl (ev_sub rfl rfl (by first | omega | (simp; done) | (simp; omega))) ?_)
      (first | refine RS_m_yes retB_noPanic rfl rfl rfl rfl ⟨_, rfl, (by simp)⟩ rfl (ev_indexAddrN rfl rfl (by first | omega | (simp; done) | (simp; omega))) ?_ | refine RS_m_yes retB_noPanic rfl rfl rfl rfl ⟨_, rfl, (by simp)⟩ rfl (ev_indexAddr rfl rfl (by first | omega | (simp; done) | (simp; omega)) (by first | omega | (simp; done) | (simp; omega))) ?_)
      refine RS_m_yes retB_noPanic rfl rfl rfl rfl ⟨_, rfl, (by simp)⟩ rfl (ev_fieldAddr rfl) ?_
      refine RS_q_yes retB_noPanic rfl rfl rfl rfl ⟨_, rfl, (by simp)⟩ rfl (ev_load rfl (by repeat' first | exact Ld.blk rfl | assumption | apply Ld.skip | apply Ld.app)) ?_
      refine RS_m_yes retB_noPanic rfl rfl rfl rfl ⟨_, rfl, (by simp)⟩ rfl (ev_neq rfl rfl) ?_
      refine RS_m retB_noPanic rfl rfl rfl rfl (ev_pick_f rfl (by simp) rfl) ?_
      refine RS_nil ?_
      (repeat first | refine G_seq ?_ | refine G_skip ?_ | refine G_endblk ?_ | refine G_block ?_ | refine G_exit rfl ?_)
      refine G_cond_f rfl (by simp) ?_
      (repeat first | refine G_seq ?_ | refine G_skip ?_ | refine G_endblk ?_ | refine G_block ?_ | refine G_exit rfl ?_)
      refine G_region ?_
      refine GO_q rfl rfl (ev_move rfl) ?_
      refine GO_q rfl rfl (ev_len rfl) ?_
      refine GO_q rfl rfl (ev_eql rfl rfl) ?_
      refine GO_nil ?_
      (repeat first | refine G_seq ?_ | refine G_skip ?_ | refine G_endblk ?_ | refine G_block ?_ | refine G_exit rfl ?_)
      refine G_cond_f rfl (decide_eq_false (by omega)) ?_
      (repeat first | refine G_seq ?_ | refine G_skip ?_ | refine G_endblk ?_ | refine G_block ?_ | refine G_exit rfl ?_)
      refine G_region ?_
      refine GO_q rfl rfl (ev_move rfl) ?_
      refine GO_q rfl rfl (ev_len rfl) ?_
      (first | refine GO_q rfl rfl (ev_addN (q := 1) rfl rfl (by first | omega | (simp; done) | (simp; omega))) ?_ | refine GO_q rfl rfl (ev_add rfl rfl (by first | omega | (simp; done) | (simp; omega))) ?_)
      refine GO_q rfl rfl (ev_quoN (q := 2) rfl rfl (by omega) (by omega)) ?_
      rw [hmid]
      refine GO_q rfl rfl (ev_assign rfl) ?_
      refine GO_nil ?_
      (repeat first | refine G_seq ?_ | refine G_skip ?_ | refine G_endblk ?_ | refine G_block ?_ | refine G_exit rfl ?_)
      refine G_draw (.q 0 (.q 1 (.q 2 (.q 3 (.q 4 (.q 5 (.q 6 (.q 7 (.e 8 (.q 9 (.q 10 (.q 11 (.q 12 (.q 13 (.q 14 (.q 15 (.q 16 (.q 17 (.e 18 (.q 19 (.q 20 .nil))))))))))))))))))))) (by kernel_rfl) (by kernel_rfl) ?_
      refine RS_m retB_noPanic rfl rfl rfl rfl (ev_move rfl) ?_
      (first | refine RS_m retB_noPanic rfl rfl rfl rfl (ev_nilCheck rfl) ?_ | refine RS_m retB_noPanic rfl rfl rfl rfl (ev_nilCheckF (by simp) rfl) ?_)
      refine RS_m retB_noPanic rfl rfl rfl rfl (ev_fieldAddr rfl) ?_
      refine RS_m retB_noPanic rfl rfl rfl rfl (ev_indexAddrA rfl rfl (by first | omega | (simp; done) | (simp; omega)) (by first | omega | (simp; done) | (simp; omega))) ?_
      refine RS_q retB_noPanic rfl rfl rfl rfl (ev_load rfl (by repeat' first | exact Ld.blk rfl | assumption | apply Ld.skip | apply Ld.app)) ?_
      refine RS_m retB_noPanic rfl rfl rfl rfl (ev_move rfl) ?_
      refine RS_m retB_noPanic rfl rfl rfl rfl (ev_move rfl) ?_
      refine RS_q retB_noPanic rfl rfl rfl rfl (ev_sliceH rfl rfl (by first | omega | (simp; done) | (simp; omega))) ?_
      refine RS_e (RE_eff rfl rfl rfl (eff_call rfl (s1 _ i1.skip m1.skip)) ?_); rintro _ _ ⟨rfl, rfl⟩; refine ⟨_, fun _ s => s, (by first | ((repeat first | exact fun _ s => s | apply en_keep | apply en_drop | apply en_app) <;> fail) | ((repeat first | exact en_refl | (apply en_blk; focus ((repeat' first | exact Pick.here | apply Pick.skip | apply Pick.app); done); focus rfl) | (apply en_own; focus ((repeat' first | exact Pick.here | apply Pick.skip | apply Pick.app); done); focus rfl) | (apply en_pick; focus ((repeat' first | exact Pick.here | apply Pick.skip | apply Pick.app); done)) | apply en_drop | apply en_app) <;> fail)), ?_⟩
      refine RS_m retB_noPanic rfl rfl rfl rfl (ev_move rfl) ?_
      refine RS_m_yes retB_noPanic rfl rfl rfl rfl ⟨_, rfl, rfl⟩ rfl (ev_move rfl) ?_
      (first | refine RS_m_yes retB_noPanic rfl rfl rfl rfl ⟨_, rfl, rfl⟩ rfl (ev_nilCheck rfl) ?_ | refine RS_m_yes retB_noPanic rfl rfl rfl rfl ⟨_, rfl, rfl⟩ rfl (ev_nilCheckF (by simp) rfl) ?_)
      refine RS_m_yes retB_noPanic rfl rfl rfl rfl ⟨_, rfl, rfl⟩ rfl (ev_fieldAddr rfl) ?_
      refine RS_m_yes retB_noPanic rfl rfl rfl rfl ⟨_, rfl, rfl⟩ rfl (ev_indexAddrA rfl rfl (by first | omega | (simp; done) | (simp; omega)) (by first | omega | (simp; done) | (simp; omega))) ?_
      refine RS_q_yes retB_noPanic rfl rfl rfl rfl ⟨_, rfl, rfl⟩ rfl (ev_load rfl (by repeat' first | exact Ld.blk rfl | assumption | apply Ld.skip | apply Ld.app)) ?_
      refine RS_m_yes retB_noPanic rfl rfl rfl rfl ⟨_, rfl, rfl⟩ rfl (ev_move rfl) ?_
      refine RS_m_yes retB_noPanic rfl rfl rfl rfl ⟨_, rfl, rfl⟩ rfl (ev_move rfl) ?_
      refine RS_q_yes retB_noPanic rfl rfl rfl rfl ⟨_, rfl, rfl⟩ rfl (ev_sliceL rfl rfl (by first | omega | (simp; done) | (simp; omega)) (by first | omega | (simp; done) | (simp; omega))) ?_
      refine RS_e (RE_eff_yes rfl rfl rfl ⟨_, rfl, rfl⟩ rfl (eff_call rfl (s2 _ i2.skip m2.skip)) ?_); rintro _ _ ⟨rfl, rfl⟩; refine ⟨_, fun _ s => s, (by first | ((repeat first | exact fun _ s => s | apply en_keep | apply en_drop | apply en_app) <;> fail) | ((repeat first | exact en_refl | (apply en_blk; focus ((repeat' first | exact Pick.here | apply Pick.skip | apply Pick.app); done); focus rfl) | (apply en_own; focus ((repeat' first | exact Pick.here | apply Pick.skip | apply Pick.app); done); focus rfl) | (apply en_pick; focus ((repeat' first | exact Pick.here | apply Pick.skip | apply Pick.app); done)) | apply en_drop | apply en_app) <;> fail)), ?_⟩
      refine RS_m retB_noPanic rfl rfl rfl rfl (ev_pick_t rfl rfl rfl) ?_
      refine RS_m retB_noPanic rfl rfl rfl rfl (ev_assign rfl) ?_
      refine RS_nil ?_
      (repeat first | refine G_seq ?_ | refine G_skip ?_ | refine G_endblk ?_ | refine G_block ?_ | refine G_exit rfl ?_)
      refine G_ret rfl (.tmp rfl .nil) (by (repeat first | exact fun _ s => s | apply en_keep | apply en_drop | apply en_app) <;> fail) ⟨rfl, rfl⟩
theorem tCheck_ctr {t : Nat} {T : RT} {A : Option Addr} {c : Nat} {l : List Pt} {L : List HP} (h : TR L t T A c l) (hn : l.length ≤ 100000) : Ctr Try.prog 22 #[.pointer (some ⟨t, 0, none⟩)] L fun v L' => v = .bool true ∧ L' = L := by
  have z0 : Ld L ⟨t, 0 + 0, none⟩ (.pointer T.addr) := h.z.at_ (i := 0) rfl
  have z1 : Ld L ⟨t, 0 + 1, none⟩ (.slice A l.length c) := h.z.at_ (i := 1) rfl
  have hin := h.i
  have ho := h.o
  have hs := fun M (hi : RIn M T) (hr : Rd M A l.length l) => rsound_ctr T l A l.length c M hi ho hn hr h.c1 h.c2
  have hI := fun M (hr : Rd M A l.length l) => IsO_ctr less_ls A l.length c l M hr (by omega) (h.a.srt sto_less)
  cases hT : T with
  | nil =>
    subst hT
    refine Ctr_of (fn := Try.f22) (n := 40) Try.func22 rfl rfl rfl ?_
    intro g F
    (repeat first | refine G_seq ?_ | refine G_skip ?_ | refine G_endblk ?_ | refine G_block ?_ | refine G_exit rfl ?_)
    refine G_region ?_
    refine GO_q rfl rfl (ev_assign rfl) ?_
    refine GO_nil ?_
    (repeat first | refine G_seq ?_ | refine G_skip ?_ | refine G_endblk ?_ | refine G_block ?_ | refine G_exit rfl ?_)
    refine G_draw (.q 0 (.q 1 (.q 2 (.q 3 (.q 4 (.q 5 (.q 6 (.e 7 (.q 8 (.q 9 (.q 10 (.q 11 (.q 12 (.q 13 (.q 14 (.q 15 (.q 16 (.q 17 (.q 18 (.e 19 (.q 20 (.q 21 .nil)))))))))))))))))))))) (by kernel_rfl) (by kernel_rfl) ?_
    refine RS_m retB_noPanic rfl rfl rfl rfl (ev_move rfl) ?_
    (first | refine RS_m retB_noPanic rfl rfl rfl rfl (ev_eqlNil rfl rfl) ?_ | refine RS_m retB_noPanic rfl rfl rfl rfl (ev_eqlPtr rfl rfl) ?_)
    refine RS_m retB_noPanic rfl rfl rfl rfl (ev_move rfl) ?_
    refine RS_m_yes retB_noPanic rfl rfl rfl rfl ⟨_, rfl, rfl⟩ rfl (ev_move rfl) ?_
    (first | refine RS_m_yes retB_noPanic rfl rfl rfl rfl ⟨_, rfl, rfl⟩ rfl (ev_nilCheck rfl) ?_ | refine RS_m_yes retB_noPanic rfl rfl rfl rfl ⟨_, rfl, rfl⟩ rfl (ev_nilCheckF (by simp) rfl) ?_)
    refine RS_m_yes retB_noPanic rfl rfl rfl rfl ⟨_, rfl, rfl⟩ rfl (ev_fieldAddr rfl) ?_
    refine RS_q_yes retB_noPanic rfl rfl rfl rfl ⟨_, rfl, rfl⟩ rfl (ev_load rfl (by repeat' first | exact Ld.blk rfl | assumption | apply Ld.skip | apply Ld.app)) ?_
    refine RS_e (RE_eff_yes rfl rfl rfl ⟨_, rfl, rfl⟩ rfl (eff_call rfl (hI _ h.r.skip)) ?_); rintro _ _ ⟨rfl, rfl⟩; refine ⟨_, fun _ s => s, (by first | ((repeat first | exact fun _ s => s | apply en_keep | apply en_drop | apply en_app) <;> fail) | ((repeat first | exact en_refl | (apply en_blk; focus ((repeat' first | exact Pick.here | apply Pick.skip | apply Pick.app); done); focus rfl) | (apply en_own; focus ((repeat' first | exact Pick.here | apply Pick.skip | apply Pick.app); done); focus rfl) | (apply en_pick; focus ((repeat' first | exact Pick.here | apply Pick.skip | apply Pick.app); done)) | apply en_drop | apply en_app) <;> fail)), ?_⟩
    refine RS_m_yes retB_noPanic rfl rfl rfl rfl ⟨_, rfl, rfl⟩ rfl (ev_not rfl) ?_
    refine RS_m retB_noPanic rfl rfl rfl rfl (ev_pick_f rfl rfl rfl) ?_
    refine RS_m retB_noPanic rfl rfl rfl rfl (ev_move rfl) ?_
    refine RS_m_yes retB_noPanic rfl rfl rfl rfl ⟨_, rfl, rfl⟩ rfl (ev_move rfl) ?_
    (first | refine RS_m_yes retB_noPanic rfl rfl rfl rfl ⟨_, rfl, rfl⟩ rfl (ev_nilCheck rfl) ?_ | refine RS_m_yes retB_noPanic rfl rfl rfl rfl ⟨_, rfl, rfl⟩ rfl (ev_nilCheckF (by simp) rfl) ?_)
    refine RS_m_yes retB_noPanic rfl rfl rfl rfl ⟨_, rfl, rfl⟩ rfl (ev_fieldAddr rfl) ?_
    refine RS_q_yes retB_noPanic rfl rfl rfl rfl ⟨_, rfl, rfl⟩ rfl (ev_load rfl (by repeat' first | exact Ld.blk rfl | assumption | apply Ld.skip | apply Ld.app)) ?_
    refine RS_m_yes retB_noPanic rfl rfl rfl rfl ⟨_, rfl, rfl⟩ rfl (ev_move rfl) ?_
    (first | refine RS_m_yes retB_noPanic rfl rfl rfl rfl ⟨_, rfl, rfl⟩ rfl (ev_nilCheck rfl) ?_ | refine RS_m_yes retB_noPanic rfl rfl rfl rfl ⟨_, rfl, rfl⟩ rfl (ev_nilCheckF (by simp) rfl) ?_)
    refine RS_m_yes retB_noPanic rfl rfl rfl rfl ⟨_, rfl, rfl⟩ rfl (ev_fieldAddr rfl) ?_
    refine RS_q_yes retB_noPanic rfl rfl rfl rfl ⟨_, rfl, rfl⟩ rfl (ev_load rfl (by repeat' first | exact Ld.blk rfl | assumption | apply Ld.skip | apply Ld.app)) ?_
    refine RS_e (RE_eff_yes rfl rfl rfl ⟨_, rfl, rfl⟩ rfl (eff_call rfl (hs _ trivial h.r.skip)) ?_); rintro _ _ ⟨rfl, rfl⟩; refine ⟨_, fun _ s => s, (by first | ((repeat first | exact fun _ s => s | apply en_keep | apply en_drop | apply en_app) <;> fail) | ((repeat first | exact en_refl | (apply en_blk; focus ((repeat' first | exact Pick.here | apply Pick.skip | apply Pick.app); done); focus rfl) | (apply en_own; focus ((repeat' first | exact Pick.here | apply Pick.skip | apply Pick.app); done); focus rfl) | (apply en_pick; focus ((repeat' first | exact Pick.here | apply Pick.skip | apply Pick.app); done)) | apply en_drop | apply en_app) <;> fail)), ?_⟩
    refine RS_m_yes retB_noPanic rfl rfl rfl rfl ⟨_, rfl, rfl⟩ rfl (ev_not rfl) ?_
    refine RS_m retB_noPanic rfl rfl rfl rfl (ev_pick_f rfl rfl rfl) ?_
    refine RS_nil ?_
    (repeat first | refine G_seq ?_ | refine G_skip ?_ | refine G_endblk ?_ | refine G_block ?_ | refine G_exit rfl ?_)
    refine G_cond_f rfl rfl ?_
    (repeat first | refine G_seq ?_ | refine G_skip ?_ | refine G_endblk ?_ | refine G_block ?_ | refine G_exit rfl ?_)
    refine G_region ?_
    refine GO_q rfl rfl (ev_move rfl) ?_
    (first | refine GO_q rfl rfl (ev_nilCheck rfl) ?_ | refine GO_q rfl rfl (ev_nilCheckF (by simp) rfl) ?_)
    refine GO_q rfl rfl (ev_fieldAddr rfl) ?_
    refine GO_q rfl rfl (ev_load rfl (by repeat' first | exact Ld.blk rfl | assumption | apply Ld.skip | apply Ld.app)) ?_
    (first | refine GO_q rfl rfl (ev_eqlNil rfl rfl) ?_ | refine GO_q rfl rfl (ev_eqlPtr rfl rfl) ?_)
    refine GO_q rfl rfl (ev_move rfl) ?_
    refine GO_no rfl rfl rfl rfl ?_
    refine GO_no rfl rfl rfl rfl ?_
    refine GO_no rfl rfl rfl rfl ?_
    refine GO_no rfl rfl rfl rfl ?_
    refine GO_no rfl rfl rfl rfl ?_
    refine GO_no rfl rfl rfl rfl ?_
    refine GO_no rfl rfl rfl rfl ?_
    refine GO_no rfl rfl rfl rfl ?_
    refine GO_q rfl rfl (ev_pick_t rfl rfl rfl) ?_
    refine GO_q rfl rfl (ev_assign rfl) ?_
    refine GO_nil ?_
    (repeat first | refine G_seq ?_ | refine G_skip ?_ | refine G_endblk ?_ | refine G_block ?_ | refine G_exit rfl ?_)
    refine G_ret rfl (.tmp rfl .nil) (by (repeat first | exact fun _ s => s | apply en_keep | apply en_drop | apply en_app) <;> fail) ⟨rfl, rfl⟩
  | node d q a u v lo hi' =>
    subst hT
    have z5 : Ld L ⟨t, 0 + 0, none⟩ (.pointer (some ⟨d, 0, none⟩)) := z0
    have z6 : Ld L ⟨d, 0 + 0, none⟩ (.pointer q) := hin.1.at_ (i := 0) rfl
    have ha : ArrIn L q a := hin.2.1
    have hsa := fun X => asound_ctr (RT.node d q a u v lo hi') l (X :: L) q ho hn (show ArrIn (X :: L) q a from ha.skip)
    cases hq : q with
    | none =>
      subst hq
      exfalso
      have hl := ho.len
      have hpos : 0 < l.length := by obtain ⟨⟨pf, g0, _⟩, _⟩ := ho; have := (List.getElem?_eq_some_iff.1 g0).1; omega
      cases a with
      | nil => have : (0 : Nat) = l.length := hl; omega
      | node => simp [ArrIn] at ha
    | some qa =>
      subst hq
      have hC := fun X => Check_ctr qa (X :: L) (fun Y => (asound_ctr (RT.node d (some qa) a u v lo hi') l (Y :: X :: L) (some qa) ho hn (show ArrIn (Y :: X :: L) (some qa) a from ha.skip.skip)))
      refine Ctr_of (fn := Try.f22) (n := 40) Try.func22 rfl rfl rfl ?_
      intro g F
      (repeat first | refine G_seq ?_ | refine G_skip ?_ | refine G_endblk ?_ | refine G_block ?_ | refine G_exit rfl ?_)
      refine G_region ?_
      refine GO_q rfl rfl (ev_assign rfl) ?_
      refine GO_nil ?_
      (repeat first | refine G_seq ?_ | refine G_skip ?_ | refine G_endblk ?_ | refine G_block ?_ | refine G_exit rfl ?_)
      refine G_draw (.q 0 (.q 1 (.q 2 (.q 3 (.q 4 (.q 5 (.q 6 (.e 7 (.q 8 (.q 9 (.q 10 (.q 11 (.q 12 (.q 13 (.q 14 (.q 15 (.q 16 (.q 17 (.q 18 (.e 19 (.q 20 (.q 21 .nil)))))))))))))))))))))) (by kernel_rfl) (by kernel_rfl) ?_
      refine RS_m retB_noPanic rfl rfl rfl rfl (ev_move rfl) ?_
      (first | refine RS_m retB_noPanic rfl rfl rfl rfl (ev_eqlNil rfl rfl) ?_ | refine RS_m retB_noPanic rfl rfl rfl rfl (ev_eqlPtr rfl rfl) ?_)
      refine RS_m retB_noPanic rfl rfl rfl rfl (ev_move rfl) ?_
      refine RS_m_yes retB_noPanic rfl rfl rfl rfl ⟨_, rfl, rfl⟩ rfl (ev_move rfl) ?_
      (first | refine RS_m_yes retB_noPanic rfl rfl rfl rfl ⟨_, rfl, rfl⟩ rfl (ev_nilCheck rfl) ?_ | refine RS_m_yes retB_noPanic rfl rfl rfl rfl ⟨_, rfl, rfl⟩ rfl (ev_nilCheckF (by simp) rfl) ?_)
      refine RS_m_yes retB_noPanic rfl rfl rfl rfl ⟨_, rfl, rfl⟩ rfl (ev_fieldAddr rfl) ?_
      refine RS_q_yes retB_noPanic rfl rfl rfl rfl ⟨_, rfl, rfl⟩ rfl (ev_load rfl (by repeat' first | exact Ld.blk rfl | assumption | apply Ld.skip | apply Ld.app)) ?_
      refine RS_e (RE_eff_yes rfl rfl rfl ⟨_, rfl, rfl⟩ rfl (eff_call rfl (hI _ h.r.skip)) ?_); rintro _ _ ⟨rfl, rfl⟩; refine ⟨_, fun _ s => s, (by first | ((repeat first | exact fun _ s => s | apply en_keep | apply en_drop | apply en_app) <;> fail) | ((repeat first | exact en_refl | (apply en_blk; focus ((repeat' first | exact Pick.here | apply Pick.skip | apply Pick.app); done); focus rfl) | (apply en_own; focus ((repeat' first | exact Pick.here | apply Pick.skip | apply Pick.app); done); focus rfl) | (apply en_pick; focus ((repeat' first | exact Pick.here | apply Pick.skip | apply Pick.app); done)) | apply en_drop | apply en_app) <;> fail)), ?_⟩
      refine RS_m_yes retB_noPanic rfl rfl rfl rfl ⟨_, rfl, rfl⟩ rfl (ev_not rfl) ?_
      refine RS_m retB_noPanic rfl rfl rfl rfl (ev_pick_f rfl rfl rfl) ?_
      refine RS_m retB_noPanic rfl rfl rfl rfl (ev_move rfl) ?_
      refine RS_m_yes retB_noPanic rfl rfl rfl rfl ⟨_, rfl, rfl⟩ rfl (ev_move rfl) ?_
      (first | refine RS_m_yes retB_noPanic rfl rfl rfl rfl ⟨_, rfl, rfl⟩ rfl (ev_nilCheck rfl) ?_ | refine RS_m_yes retB_noPanic rfl rfl rfl rfl ⟨_, rfl, rfl⟩ rfl (ev_nilCheckF (by simp) rfl) ?_)
      refine RS_m_yes retB_noPanic rfl rfl rfl rfl ⟨_, rfl, rfl⟩ rfl (ev_fieldAddr rfl) ?_
      refine RS_q_yes retB_noPanic rfl rfl rfl rfl ⟨_, rfl, rfl⟩ rfl (ev_load rfl (by repeat' first | exact Ld.blk rfl | assumption | apply Ld.skip | apply Ld.app)) ?_
      refine RS_m_yes retB_noPanic rfl rfl rfl rfl ⟨_, rfl, rfl⟩ rfl (ev_move rfl) ?_
      (first | refine RS_m_yes retB_noPanic rfl rfl rfl rfl ⟨_, rfl, rfl⟩ rfl (ev_nilCheck rfl) ?_ | refine RS_m_yes retB_noPanic rfl rfl rfl rfl ⟨_, rfl, rfl⟩ rfl (ev_nilCheckF (by simp) rfl) ?_)
      refine RS_m_yes retB_noPanic rfl rfl rfl rfl ⟨_, rfl, rfl⟩ rfl (ev_fieldAddr rfl) ?_
      refine RS_q_yes retB_noPanic rfl rfl rfl rfl ⟨_, rfl, rfl⟩ rfl (ev_load rfl (by repeat' first | exact Ld.blk rfl | assumption | apply Ld.skip | apply Ld.app)) ?_
      refine RS_e (RE_eff_yes rfl rfl rfl ⟨_, rfl, rfl⟩ rfl (eff_call rfl (hs _ hin.skip h.r.skip)) ?_); rintro _ _ ⟨rfl, rfl⟩; refine ⟨_, fun _ s => s, (by first | ((repeat first | exact fun _ s => s | apply en_keep | apply en_drop | apply en_app) <;> fail) | ((repeat first | exact en_refl | (apply en_blk; focus ((repeat' first | exact Pick.here | apply Pick.skip | apply Pick.app); done); focus rfl) | (apply en_own; focus ((repeat' first | exact Pick.here | apply Pick.skip | apply Pick.app); done); focus rfl) | (apply en_pick; focus ((repeat' first | exact Pick.here | apply Pick.skip | apply Pick.app); done)) | apply en_drop | apply en_app) <;> fail)), ?_⟩
      refine RS_m_yes retB_noPanic rfl rfl rfl rfl ⟨_, rfl, rfl⟩ rfl (ev_not rfl) ?_
      refine RS_m retB_noPanic rfl rfl rfl rfl (ev_pick_f rfl rfl rfl) ?_
      refine RS_nil ?_
      (repeat first | refine G_seq ?_ | refine G_skip ?_ | refine G_endblk ?_ | refine G_block ?_ | refine G_exit rfl ?_)
      refine G_cond_f rfl rfl ?_
      (repeat first | refine G_seq ?_ | refine G_skip ?_ | refine G_endblk ?_ | refine G_block ?_ | refine G_exit rfl ?_)
      refine G_region ?_
      refine GO_q rfl rfl (ev_move rfl) ?_
      (first | refine GO_q rfl rfl (ev_nilCheck rfl) ?_ | refine GO_q rfl rfl (ev_nilCheckF (by simp) rfl) ?_)
      refine GO_q rfl rfl (ev_fieldAddr rfl) ?_
      refine GO_q rfl rfl (ev_load rfl (by repeat' first | exact Ld.blk rfl | assumption | apply Ld.skip | apply Ld.app)) ?_
      (first | refine GO_q rfl rfl (ev_eqlNil rfl rfl) ?_ | refine GO_q rfl rfl (ev_eqlPtr rfl rfl) ?_)
      refine GO_q rfl rfl (ev_move rfl) ?_
      refine GO_yes rfl rfl rfl rfl ?_
      refine GO_q rfl rfl (ev_move rfl) ?_
      refine GO_yes rfl rfl rfl rfl ?_
      (first | refine GO_q rfl rfl (ev_nilCheck rfl) ?_ | refine GO_q rfl rfl (ev_nilCheckF (by simp) rfl) ?_)
      refine GO_yes rfl rfl rfl rfl ?_
      refine GO_q rfl rfl (ev_fieldAddr rfl) ?_
      refine GO_yes rfl rfl rfl rfl ?_
      refine GO_q rfl rfl (ev_load rfl (by repeat' first | exact Ld.blk rfl | assumption | apply Ld.skip | apply Ld.app)) ?_
      refine GO_yes rfl rfl rfl rfl ?_
      (first | refine GO_q rfl rfl (ev_nilCheck rfl) ?_ | refine GO_q rfl rfl (ev_nilCheckF (by simp) rfl) ?_)
      refine GO_yes rfl rfl rfl rfl ?_
      refine GO_q rfl rfl (ev_fieldAddr rfl) ?_
      refine GO_yes rfl rfl rfl rfl ?_
      refine GO_q rfl rfl (ev_load rfl (by repeat' first | exact Ld.blk rfl | assumption | apply Ld.skip | apply Ld.app)) ?_
      refine GO_yes rfl rfl rfl rfl ?_
      refine GO_eff rfl rfl (eff_call rfl (hC F)) ?_; rintro _ _ ⟨rfl, rfl⟩
      refine GO_q rfl rfl (ev_pick_f rfl rfl rfl) ?_
      refine GO_q rfl rfl (ev_assign rfl) ?_
      refine GO_nil ?_
      (repeat first | refine G_seq ?_ | refine G_skip ?_ | refine G_endblk ?_ | refine G_block ?_ | refine G_exit rfl ?_)
      refine G_ret rfl (.tmp rfl .nil) (by (repeat first | exact fun _ s => s | apply en_keep | apply en_drop | apply en_app) <;> fail) ⟨rfl, rfl⟩
end Go.Proofs.Ytejcamnnfmphkaa
/- Another reference's points in order. -/
namespace Go.Proofs.Ytejcamnnfmphkaa
attribute [local irreducible] sat
set_option linter.unusedVariables false
set_option linter.unusedSimpArgs false
set_option maxRecDepth 100000

def leX (x y : Pt) : Bool := !x.less y
def sortX (l : List Pt) : List Pt := l.foldl (fun o x => putO Pt.less x o) []
end Go.Proofs.Ytejcamnnfmphkaa
/- The references of a tree of lists: which points may be, how many levels, and that a tree lives. -/
namespace Go.Proofs.Ytejcamnnfmphkaa
attribute [local irreducible] sat
set_option linter.unusedVariables false
set_option linter.unusedSimpArgs false
set_option maxRecDepth 100000

theorem nodup_snoc {l : List Pt} {k : Nat} {x : Pt} (h : l[k]? = some x) (hd : (l.take k).Nodup) (hx : x ∉ l.take k) : (l.take (k + 1)).Nodup := by
  rw [List.take_add_one, h]
  simp only [Option.toList_some]
  exact List.nodup_append.2 ⟨hd, by simp, fun a ha b hb e => by simp at hb; subst hb; exact hx (e ▸ ha)⟩
theorem RGood17_ctr (A : Option Addr) (n c : Nat) (l : List Pt) (L : List HP) (hl : Rd L A n l) (hn : n ≤ 1000000) : Ctr Try.prog 8 #[.slice A n c] L fun v L' => v = .int .i64 (newC l) ∧ L' = L := by
  have h1 : l.length = n := hl.len (by decide)
  refine Ctr_of (fn := Try.f8) (n := 38) Try.func8 rfl rfl rfl ?_
  intro g F
  (repeat first | refine G_seq ?_ | refine G_skip ?_ | refine G_endblk ?_ | refine G_block ?_ | refine G_exit rfl ?_)
  refine G_region ?_
  refine GO_q rfl rfl (ev_assign rfl) ?_
  refine GO_nil ?_
  (repeat first | refine G_seq ?_ | refine G_skip ?_ | refine G_endblk ?_ | refine G_block ?_ | refine G_exit rfl ?_)
  refine G_region ?_
  refine GO_q rfl rfl (ev_assign rfl) ?_
  refine GO_nil ?_
  (repeat first | refine G_seq ?_ | refine G_skip ?_ | refine G_endblk ?_)
  refine G_cut (ι := Nat) (fun _ => [(0, .slice A n c)]) (fun _ => F :: L) (fun _ => ∀ p ∈ l, goodP p = true) ?_ ?_
  · (repeat first | refine G_seq ?_ | refine G_skip ?_ | refine G_endblk ?_ | refine G_block ?_ | refine G_exit rfl ?_)
    refine G_loop (ι := Nat) (fun k => [(0, .slice A n c), (3, .int .i64 (k : Nat))]) (fun _ => F :: L) (fun k => k ≤ n ∧ ∀ p ∈ l.take k, goodP p = true) (fun k => n - k) 0 ⟨Nat.zero_le _, by simp⟩ ⟨rfl, rfl, trivial⟩ (by (repeat first | exact fun _ s => s | apply en_keep | apply en_drop | apply en_app) <;> fail) ?_
    rintro k ⟨f1, f2⟩
    (repeat first | refine G_seq ?_ | refine G_skip ?_ | refine G_endblk ?_ | refine G_block ?_ | refine G_exit rfl ?_)
    refine G_region ?_
    refine GO_q rfl rfl (ev_move rfl) ?_
    refine GO_q rfl rfl (ev_move rfl) ?_
    refine GO_q rfl rfl (ev_len rfl) ?_
    (first | refine GO_q rfl rfl (ev_lssN rfl rfl) ?_ | refine GO_q rfl rfl (ev_lss rfl rfl) ?_)
    refine GO_nil ?_
    (repeat first | refine G_seq ?_ | refine G_skip ?_ | refine G_endblk ?_ | refine G_block ?_ | refine G_exit rfl ?_)
    refine G_cond rfl (fun h4 => ?_) (fun h4 => ?_)
    · obtain ⟨lb, lo, rfl, hx⟩ := hl.at_ (by omega)
      have g1 : l[k]? = some l[k] := List.getElem?_eq_getElem (by omega)
      have s1 : l.take (k + 1) = l.take k ++ [l[k]] := List.take_succ_eq_append_getElem (by omega)
      have m1 : l[k] ∈ l := List.getElem_mem _
      have y1 := hx _ _ g1
      generalize l[k] = u at *
      have z1 : LdN L lb (lo + k * 3) 3 [.int .i64 u.id, .int .i64 u.x, .int .i64 u.y] := y1
      by_cases hg : goodP u = true
      · have hG := fun M => RGood_ctr u M
        rw [hg] at hG
        (repeat first | refine G_seq ?_ | refine G_skip ?_ | refine G_endblk ?_ | refine G_block ?_ | refine G_exit rfl ?_)
        refine G_region ?_
        refine GO_q rfl rfl (ev_move rfl) ?_
        refine GO_q rfl rfl (ev_move rfl) ?_
        (first | refine GO_q rfl rfl (ev_indexAddrN rfl rfl (by first | omega | (simp; done) | (simp; omega))) ?_ | refine GO_q rfl rfl (ev_indexAddr rfl rfl (by first | omega | (simp; done) | (simp; omega)) (by first | omega | (simp; done) | (simp; omega))) ?_)
        refine GO_q rfl rfl (ev_loadN rfl (by repeat' first | exact LdN.blk rfl | assumption | apply LdN.skip | apply LdN.app)) ?_
        refine GO_eff rfl rfl (eff_call rfl (hG _)) ?_; rintro _ _ ⟨rfl, rfl⟩
        refine GO_q rfl rfl (ev_not rfl) ?_
        refine GO_nil ?_
        (repeat first | refine G_seq ?_ | refine G_skip ?_ | refine G_endblk ?_ | refine G_block ?_ | refine G_exit rfl ?_)
        refine G_cond_f rfl rfl ?_
        (repeat first | refine G_seq ?_ | refine G_skip ?_ | refine G_endblk ?_ | refine G_block ?_ | refine G_exit rfl ?_)
        refine G_region ?_
        refine GO_q rfl rfl (ev_move rfl) ?_
        (first | refine GO_q rfl rfl (ev_addN (q := 1) rfl rfl (by first | omega | (simp; done) | (simp; omega))) ?_ | refine GO_q rfl rfl (ev_add rfl rfl (by first | omega | (simp; done) | (simp; omega))) ?_)
        refine GO_q rfl rfl (ev_assign rfl) ?_
        refine GO_nil ?_
        (repeat first | refine G_seq ?_ | refine G_skip ?_ | refine G_endblk ?_ | refine G_block ?_ | refine G_exit rfl ?_)
        exact G_round (k + 1) ⟨by omega, fun p hp => by rw [s1] at hp; rcases List.mem_append.1 hp with h | h; exact f2 p h; simp at h; subst h; exact hg⟩ (by omega) ⟨rfl, rfl, trivial⟩ (by (repeat first | exact fun _ s => s | apply en_keep | apply en_drop | apply en_app) <;> fail)
      · have hG := fun M => RGood_ctr u M
        rw [show goodP u = false by simpa using hg] at hG
        have e : newC l = 1 := if_neg fun h => hg (h u m1)
        rw [e]
        (repeat first | refine G_seq ?_ | refine G_skip ?_ | refine G_endblk ?_ | refine G_block ?_ | refine G_exit rfl ?_)
        refine G_region ?_
        refine GO_q rfl rfl (ev_move rfl) ?_
        refine GO_q rfl rfl (ev_move rfl) ?_
        (first | refine GO_q rfl rfl (ev_indexAddrN rfl rfl (by first | omega | (simp; done) | (simp; omega))) ?_ | refine GO_q rfl rfl (ev_indexAddr rfl rfl (by first | omega | (simp; done) | (simp; omega)) (by first | omega | (simp; done) | (simp; omega))) ?_)
        refine GO_q rfl rfl (ev_loadN rfl (by repeat' first | exact LdN.blk rfl | assumption | apply LdN.skip | apply LdN.app)) ?_
        refine GO_eff rfl rfl (eff_call rfl (hG _)) ?_; rintro _ _ ⟨rfl, rfl⟩
        refine GO_q rfl rfl (ev_not rfl) ?_
        refine GO_nil ?_
        (repeat first | refine G_seq ?_ | refine G_skip ?_ | refine G_endblk ?_ | refine G_block ?_ | refine G_exit rfl ?_)
        refine G_cond_t rfl rfl ?_
        (repeat first | refine G_seq ?_ | refine G_skip ?_ | refine G_endblk ?_ | refine G_block ?_ | refine G_exit rfl ?_)
        refine G_region ?_
        refine GO_q rfl rfl (ev_assign rfl) ?_
        refine GO_nil ?_
        (repeat first | refine G_seq ?_ | refine G_skip ?_ | refine G_endblk ?_ | refine G_block ?_ | refine G_exit rfl ?_)
        refine G_ret rfl (.tmp rfl .nil) (by (repeat first | exact fun _ s => s | apply en_keep | apply en_drop | apply en_app) <;> fail) ⟨rfl, rfl⟩
    · have e : k = n := by omega
      subst e
      rw [List.take_of_length_le (by omega)] at f2
      (repeat first | refine G_seq ?_ | refine G_skip ?_ | refine G_endblk ?_ | refine G_block ?_ | refine G_exit rfl ?_)
      exact G_inv 0 f2 ⟨rfl, trivial⟩ (by (repeat first | exact fun _ s => s | apply en_keep | apply en_drop | apply en_app) <;> fail)
  · rintro _ hg
    (repeat first | refine G_seq ?_ | refine G_skip ?_ | refine G_endblk ?_ | refine G_block ?_ | refine G_exit rfl ?_)
    refine G_region ?_
    refine GO_q rfl rfl (ev_assign rfl) ?_
    refine GO_nil ?_
    (repeat first | refine G_seq ?_ | refine G_skip ?_ | refine G_endblk ?_ | refine G_block ?_ | refine G_exit rfl ?_)
    refine G_loop (ι := Nat) (fun k => [(0, .slice A n c), (4, .int .i64 (k : Nat))]) (fun _ => F :: L) (fun k => k ≤ n ∧ (l.take k).Nodup) (fun k => n - k) 0 ⟨Nat.zero_le _, by simp⟩ ⟨rfl, rfl, trivial⟩ (by (repeat first | exact fun _ s => s | apply en_keep | apply en_drop | apply en_app) <;> fail) ?_
    rintro k ⟨f1, f2⟩
    (repeat first | refine G_seq ?_ | refine G_skip ?_ | refine G_endblk ?_ | refine G_block ?_ | refine G_exit rfl ?_)
    refine G_region ?_
    refine GO_q rfl rfl (ev_move rfl) ?_
    refine GO_q rfl rfl (ev_move rfl) ?_
    refine GO_q rfl rfl (ev_len rfl) ?_
    (first | refine GO_q rfl rfl (ev_lssN rfl rfl) ?_ | refine GO_q rfl rfl (ev_lss rfl rfl) ?_)
    refine GO_nil ?_
    (repeat first | refine G_seq ?_ | refine G_skip ?_ | refine G_endblk ?_ | refine G_block ?_ | refine G_exit rfl ?_)
    refine G_cond rfl (fun h4 => ?_) (fun h4 => ?_)
    · obtain ⟨lb, lo, rfl, hx⟩ := hl.at_ (by omega)
      have g1 : l[k]? = some l[k] := List.getElem?_eq_getElem (by omega)
      have y1 := hx _ _ g1
      generalize l[k] = u at *
      have z1 : LdN L lb (lo + k * 3) 3 [.int .i64 u.id, .int .i64 u.x, .int .i64 u.y] := y1
      (repeat first | refine G_seq ?_ | refine G_skip ?_ | refine G_endblk ?_ | refine G_block ?_ | refine G_exit rfl ?_)
      refine G_region ?_
      refine GO_q rfl rfl (ev_assign rfl) ?_
      refine GO_nil ?_
      (repeat first | refine G_seq ?_ | refine G_skip ?_ | refine G_endblk ?_ | refine G_block ?_ | refine G_exit rfl ?_)
      refine G_loop (ι := Nat) (fun j => [(0, .slice (some ⟨lb, lo, none⟩) n c), (4, .int .i64 (k : Nat)), (5, .int .i64 (j : Nat))]) (fun _ => F :: L) (fun j => j ≤ k ∧ u ∉ l.take j) (fun j => k - j) 0 ⟨Nat.zero_le _, by simp⟩ ⟨rfl, rfl, rfl, trivial⟩ (by (repeat first | exact fun _ s => s | apply en_keep | apply en_drop | apply en_app) <;> fail) ?_
      rintro j ⟨q1, q2⟩
      (repeat first | refine G_seq ?_ | refine G_skip ?_ | refine G_endblk ?_ | refine G_block ?_ | refine G_exit rfl ?_)
      refine G_region ?_
      refine GO_q rfl rfl (ev_move rfl) ?_
      refine GO_q rfl rfl (ev_move rfl) ?_
      (first | refine GO_q rfl rfl (ev_lssN rfl rfl) ?_ | refine GO_q rfl rfl (ev_lss rfl rfl) ?_)
      refine GO_nil ?_
      (repeat first | refine G_seq ?_ | refine G_skip ?_ | refine G_endblk ?_ | refine G_block ?_ | refine G_exit rfl ?_)
      refine G_cond rfl (fun h5 => ?_) (fun h5 => ?_)
      · have g2 : l[j]? = some l[j] := List.getElem?_eq_getElem (by omega)
        have s1 : l.take (j + 1) = l.take j ++ [l[j]] := List.take_succ_eq_append_getElem (by omega)
        have y2 := hx _ _ g2
        have hne : u = l[j] → ¬ l.Nodup := fun e hd => by
          obtain ⟨a1, rfl⟩ := List.getElem?_eq_some_iff.1 g1
          have := (List.getElem_inj hd).1 e
          omega
        generalize l[j] = w at *
        have z2 : LdN L lb (lo + j * 3) 3 [.int .i64 w.id, .int .i64 w.x, .int .i64 w.y] := y2
        (repeat first | refine G_seq ?_ | refine G_skip ?_ | refine G_endblk ?_ | refine G_block ?_ | refine G_exit rfl ?_)
        refine G_draw (.q 0 (.q 1 (.q 2 (.q 3 (.q 4 (.q 5 (.q 6 (.q 7 (.q 8 .nil))))))))) (by kernel_rfl) (by kernel_rfl) ?_
        refine RS_m retB_noPanic rfl rfl rfl rfl (ev_move rfl) ?_
        refine RS_m retB_noPanic rfl rfl rfl rfl (ev_move rfl) ?_
        (first | refine RS_m retB_noPanic rfl rfl rfl rfl (ev_indexAddrN rfl rfl (by first | omega | (simp; done) | (simp; omega))) ?_ | refine RS_m retB_noPanic rfl rfl rfl rfl (ev_indexAddr rfl rfl (by first | omega | (simp; done) | (simp; omega)) (by first | omega | (simp; done) | (simp; omega))) ?_)
        refine RS_q retB_noPanic rfl rfl rfl rfl (ev_loadN rfl (by repeat' first | exact LdN.blk rfl | assumption | apply LdN.skip | apply LdN.app)) ?_
        refine RS_m retB_noPanic rfl rfl rfl rfl (ev_move rfl) ?_
        refine RS_m retB_noPanic rfl rfl rfl rfl (ev_move rfl) ?_
        (first | refine RS_m retB_noPanic rfl rfl rfl rfl (ev_indexAddrN rfl rfl (by first | omega | (simp; done) | (simp; omega))) ?_ | refine RS_m retB_noPanic rfl rfl rfl rfl (ev_indexAddr rfl rfl (by first | omega | (simp; done) | (simp; omega)) (by first | omega | (simp; done) | (simp; omega))) ?_)
        refine RS_q retB_noPanic rfl rfl rfl rfl (ev_loadN rfl (by repeat' first | exact LdN.blk rfl | assumption | apply LdN.skip | apply LdN.app)) ?_
        refine RS_m retB_noPanic rfl rfl rfl rfl (ev_eqlS rfl rfl rfl rfl rfl rfl) ?_
        refine RS_nil ?_
        (repeat first | refine G_seq ?_ | refine G_skip ?_ | refine G_endblk ?_ | refine G_block ?_ | refine G_exit rfl ?_)
        refine G_cond rfl (fun h6 => ?_) (fun h6 => ?_)
        · have e := (pt_list u w).1 h6
          have e5 : newC l = 5 := by unfold newC; rw [if_pos hg, if_neg (hne e)]
          rw [e5]
          (repeat first | refine G_seq ?_ | refine G_skip ?_ | refine G_endblk ?_ | refine G_block ?_ | refine G_exit rfl ?_)
          refine G_region ?_
          refine GO_q rfl rfl (ev_assign rfl) ?_
          refine GO_nil ?_
          (repeat first | refine G_seq ?_ | refine G_skip ?_ | refine G_endblk ?_ | refine G_block ?_ | refine G_exit rfl ?_)
          refine G_ret rfl (.tmp rfl .nil) (by (repeat first | exact fun _ s => s | apply en_keep | apply en_drop | apply en_app) <;> fail) ⟨rfl, rfl⟩
        · have e : u ≠ w := fun e => h6 ((pt_list u w).2 e)
          (repeat first | refine G_seq ?_ | refine G_skip ?_ | refine G_endblk ?_ | refine G_block ?_ | refine G_exit rfl ?_)
          refine G_region ?_
          refine GO_q rfl rfl (ev_move rfl) ?_
          (first | refine GO_q rfl rfl (ev_addN (q := 1) rfl rfl (by first | omega | (simp; done) | (simp; omega))) ?_ | refine GO_q rfl rfl (ev_add rfl rfl (by first | omega | (simp; done) | (simp; omega))) ?_)
          refine GO_q rfl rfl (ev_assign rfl) ?_
          refine GO_nil ?_
          (repeat first | refine G_seq ?_ | refine G_skip ?_ | refine G_endblk ?_ | refine G_block ?_ | refine G_exit rfl ?_)
          exact G_round (j + 1) ⟨by omega, by rw [s1]; simp only [List.mem_append, List.mem_singleton, not_or]; exact ⟨q2, e⟩⟩ (by omega) ⟨rfl, rfl, rfl, trivial⟩ (by (repeat first | exact fun _ s => s | apply en_keep | apply en_drop | apply en_app) <;> fail)
      · have e : j = k := by omega
        subst e
        (repeat first | refine G_seq ?_ | refine G_skip ?_ | refine G_endblk ?_ | refine G_block ?_ | refine G_exit rfl ?_)
        refine G_region ?_
        refine GO_q rfl rfl (ev_move rfl) ?_
        (first | refine GO_q rfl rfl (ev_addN (q := 1) rfl rfl (by first | omega | (simp; done) | (simp; omega))) ?_ | refine GO_q rfl rfl (ev_add rfl rfl (by first | omega | (simp; done) | (simp; omega))) ?_)
        refine GO_q rfl rfl (ev_assign rfl) ?_
        refine GO_nil ?_
        (repeat first | refine G_seq ?_ | refine G_skip ?_ | refine G_endblk ?_ | refine G_block ?_ | refine G_exit rfl ?_)
        exact G_round (j + 1) ⟨by omega, nodup_snoc g1 f2 q2⟩ (by omega) ⟨rfl, rfl, trivial⟩ (by (repeat first | exact fun _ s => s | apply en_keep | apply en_drop | apply en_app) <;> fail)
    · have e : k = n := by omega
      subst e
      rw [List.take_of_length_le (by omega)] at f2
      have e0 : newC l = 0 := by unfold newC; rw [if_pos hg, if_pos f2]
      rw [e0]
      (repeat first | refine G_seq ?_ | refine G_skip ?_ | refine G_endblk ?_ | refine G_block ?_ | refine G_exit rfl ?_)
      refine G_region ?_
      refine GO_q rfl rfl (ev_assign rfl) ?_
      refine GO_nil ?_
      (repeat first | refine G_seq ?_ | refine G_skip ?_ | refine G_endblk ?_ | refine G_block ?_ | refine G_exit rfl ?_)
      refine G_ret rfl (.tmp rfl .nil) (by (repeat first | exact fun _ s => s | apply en_keep | apply en_drop | apply en_app) <;> fail) ⟨rfl, rfl⟩
theorem RLevels_ctr (n : Nat) (L : List HP) (hn : n ≤ 1000000) : Ctr Try.prog 24 #[.int .i64 (n : Nat)] L fun v L' => (∃ k : Nat, v = .int .i64 (k : Nat) ∧ (n = 0 → k = 0) ∧ (0 < n → ∃ j, k = j + 1 ∧ n ≤ 2 ^ j) ∧ k ≤ 60) ∧ L' = L := by
  refine Ctr_of (fn := Try.f24) (n := 19) Try.func24 rfl rfl rfl ?_
  intro g F
  (repeat first | refine G_seq ?_ | refine G_skip ?_ | refine G_endblk ?_ | refine G_block ?_ | refine G_exit rfl ?_)
  refine G_region ?_
  refine GO_q rfl rfl (ev_assign rfl) ?_
  refine GO_nil ?_
  (repeat first | refine G_seq ?_ | refine G_skip ?_ | refine G_endblk ?_ | refine G_block ?_ | refine G_exit rfl ?_)
  refine G_region ?_
  refine GO_q rfl rfl (ev_assign rfl) ?_
  refine GO_q rfl rfl (ev_assign rfl) ?_
  refine GO_nil ?_
  (repeat first | refine G_seq ?_ | refine G_skip ?_ | refine G_endblk ?_ | refine G_block ?_ | refine G_exit rfl ?_)
  refine G_loop (ι := Nat) (fun k => [(0, .int .i64 (n : Nat)), (3, .int .i64 ((k + 1 : Nat) : Int)), (4, .int .i64 ((2 ^ k : Nat) : Int))]) (fun _ => F :: L) (fun k => k ≤ 20 ∧ (k = 0 ∨ 2 ^ k < 2 * n)) (fun k => 2 * n - 2 ^ k) 0 ⟨Nat.zero_le _, .inl rfl⟩ ⟨rfl, rfl, rfl, trivial⟩ (by (repeat first | exact fun _ s => s | apply en_keep | apply en_drop | apply en_app) <;> fail) ?_
  rintro k ⟨f1, f2⟩
  have hk : 2 ^ k ≤ 2 ^ 20 := Nat.pow_le_pow_right (by omega) f1
  have hk2 : 0 < 2 ^ k := Nat.two_pow_pos k
  have e2 : 2 ^ (k + 1) = 2 * 2 ^ k := by rw [Nat.pow_succ]; omega
  have h20 : (2 : Nat) ^ 20 = 1048576 := rfl
  have hlt : 2 ^ k < n → k + 1 ≤ 20 := fun h => by
    rcases Nat.lt_or_ge k 20 with h9 | h9
    · omega
    · have : k = 20 := by omega
      subst this; omega
  generalize hm : 2 ^ k = m at *
  by_cases c1 : m < n
  · have := hlt c1
    (repeat first | refine G_seq ?_ | refine G_skip ?_ | refine G_endblk ?_ | refine G_block ?_ | refine G_exit rfl ?_)
    refine G_region ?_
    refine GO_q rfl rfl (ev_move rfl) ?_
    refine GO_q rfl rfl (ev_move rfl) ?_
    (first | refine GO_q rfl rfl (ev_lssN rfl rfl) ?_ | refine GO_q rfl rfl (ev_lss rfl rfl) ?_)
    refine GO_q rfl rfl (ev_move rfl) ?_
    refine GO_yes rfl rfl rfl (decide_eq_true (by omega)) ?_
    refine GO_q rfl rfl (ev_move rfl) ?_
    refine GO_yes rfl rfl rfl (decide_eq_true (by omega)) ?_
    (first | refine GO_q rfl rfl (ev_lssN (q := 60) rfl rfl) ?_ | refine GO_q rfl rfl (ev_lss rfl rfl) ?_)
    refine GO_q rfl rfl (ev_pick_t rfl (decide_eq_true (by omega)) rfl) ?_
    refine GO_nil ?_
    (repeat first | refine G_seq ?_ | refine G_skip ?_ | refine G_endblk ?_ | refine G_block ?_ | refine G_exit rfl ?_)
    refine G_cond_t rfl (decide_eq_true (by omega)) ?_
    (repeat first | refine G_seq ?_ | refine G_skip ?_ | refine G_endblk ?_ | refine G_block ?_ | refine G_exit rfl ?_)
    refine G_region ?_
    refine GO_q rfl rfl (ev_move rfl) ?_
    (first | refine GO_q rfl rfl (ev_addN (q := 1) rfl rfl (by first | omega | (simp; done) | (simp; omega))) ?_ | refine GO_q rfl rfl (ev_add rfl rfl (by first | omega | (simp; done) | (simp; omega))) ?_)
    refine GO_q rfl rfl (ev_move rfl) ?_
    refine GO_q rfl rfl (ev_mul rfl rfl (by first | omega | (simp; done) | (simp; omega))) ?_
    refine GO_q rfl rfl (ev_assign rfl) ?_
    refine GO_q rfl rfl (ev_assign rfl) ?_
    refine GO_nil ?_
    (repeat first | refine G_seq ?_ | refine G_skip ?_ | refine G_endblk ?_ | refine G_block ?_ | refine G_exit rfl ?_)
    exact G_round (k + 1) ⟨by omega, .inr (by omega)⟩ (by omega) ⟨rfl, rfl, by rw [e2]; simp only [Int.natCast_mul]; rfl, trivial⟩ (by (repeat first | exact fun _ s => s | apply en_keep | apply en_drop | apply en_app) <;> fail)
  · (repeat first | refine G_seq ?_ | refine G_skip ?_ | refine G_endblk ?_ | refine G_block ?_ | refine G_exit rfl ?_)
    refine G_region ?_
    refine GO_q rfl rfl (ev_move rfl) ?_
    refine GO_q rfl rfl (ev_move rfl) ?_
    (first | refine GO_q rfl rfl (ev_lssN rfl rfl) ?_ | refine GO_q rfl rfl (ev_lss rfl rfl) ?_)
    refine GO_q rfl rfl (ev_move rfl) ?_
    refine GO_no rfl rfl rfl (decide_eq_false (by omega)) ?_
    refine GO_no rfl rfl rfl (decide_eq_false (by omega)) ?_
    refine GO_q rfl rfl (ev_pick_f rfl (decide_eq_false (by omega)) rfl) ?_
    refine GO_nil ?_
    (repeat first | refine G_seq ?_ | refine G_skip ?_ | refine G_endblk ?_ | refine G_block ?_ | refine G_exit rfl ?_)
    refine G_cond_f rfl rfl ?_
    (repeat first | refine G_seq ?_ | refine G_skip ?_ | refine G_endblk ?_ | refine G_block ?_ | refine G_exit rfl ?_)
    refine G_region ?_
    refine GO_q rfl rfl (ev_move rfl) ?_
    (first | refine GO_q rfl rfl (ev_lssN (q := 1) rfl rfl) ?_ | refine GO_q rfl rfl (ev_lss rfl rfl) ?_)
    refine GO_nil ?_
    rcases Nat.eq_zero_or_pos n with h0 | h0
    · (repeat first | refine G_seq ?_ | refine G_skip ?_ | refine G_endblk ?_ | refine G_block ?_ | refine G_exit rfl ?_)
      refine G_cond_t rfl (decide_eq_true (by omega)) ?_
      (repeat first | refine G_seq ?_ | refine G_skip ?_ | refine G_endblk ?_ | refine G_block ?_ | refine G_exit rfl ?_)
      refine G_region ?_
      refine GO_q rfl rfl (ev_assign rfl) ?_
      refine GO_nil ?_
      (repeat first | refine G_seq ?_ | refine G_skip ?_ | refine G_endblk ?_ | refine G_block ?_ | refine G_exit rfl ?_)
      refine G_ret rfl (.tmp rfl .nil) (by (repeat first | exact fun _ s => s | apply en_keep | apply en_drop | apply en_app) <;> fail) ⟨⟨0, rfl, fun _ => rfl, fun h => by omega, by omega⟩, rfl⟩
    · (repeat first | refine G_seq ?_ | refine G_skip ?_ | refine G_endblk ?_ | refine G_block ?_ | refine G_exit rfl ?_)
      refine G_cond_f rfl (decide_eq_false (by omega)) ?_
      (repeat first | refine G_seq ?_ | refine G_skip ?_ | refine G_endblk ?_ | refine G_block ?_ | refine G_exit rfl ?_)
      refine G_region ?_
      refine GO_q rfl rfl (ev_move rfl) ?_
      refine GO_q rfl rfl (ev_assign rfl) ?_
      refine GO_nil ?_
      (repeat first | refine G_seq ?_ | refine G_skip ?_ | refine G_endblk ?_ | refine G_block ?_ | refine G_exit rfl ?_)
      refine G_ret rfl (.tmp rfl .nil) (by (repeat first | exact fun _ s => s | apply en_keep | apply en_drop | apply en_app) <;> fail) ⟨⟨k + 1, rfl, fun h => by omega, fun _ => ⟨k, rfl, by omega⟩, by omega⟩, rfl⟩
end Go.Proofs.Ytejcamnnfmphkaa
/- From a contract to what a law's row asks. -/
namespace Go.Proofs.Ytejcamnnfmphkaa
open Go.RowKit
set_option linter.unusedVariables false

/-- A law that holds by its contract: it returns true, and nothing old has turned. -/
theorem law_of_ctr {P : Program} {f : FuncId} {args : Array Value} {w : World} (h : Ctr P f args [old w.hm] fun v L' => v = .bool true ∧ L' = [old w.hm]) :
    Calls P f args w fun e w' => e = .returned (.bool true) ∧ Below w.heap.size w w' := by
  refine (calls_of h (Hp.start w)).mono fun e w' ⟨v, L', e1, ⟨e2, e3⟩, hw'⟩ => ?_
  subst e2 e3
  exact ⟨e1, hw'.below⟩
/-- What a slice of numbers reads as. -/
theorem rc_of_reads {w : World} {sz : Nat} {A : Option Addr} {n : Nat} {xs : List Value} (hsz : 0 < sz) (h : Reads w sz A n xs) : Rc [old w.hm] sz A n xs := by
  refine ⟨h.1, fun h0 => ?_⟩
  obtain ⟨b, o, rfl, hb, hc⟩ := h.2 (Nat.mul_pos h0 hsz)
  refine ⟨b, o, rfl, fun j v hj => Ld.old ?_⟩
  obtain ⟨h1, rfl⟩ := List.getElem?_eq_some_iff.1 hj
  exact hc j h1
end Go.Proofs.Ytejcamnnfmphkaa
/- That a tree of lists lives; the law RtreeFinds. -/
namespace Go.Proofs.Ytejcamnnfmphkaa
attribute [local irreducible] sat
open Go.RowKit
set_option linter.unusedVariables false
set_option linter.unusedSimpArgs false
set_option maxRecDepth 100000

theorem idsB_perm {b : Bx} {l m : List Pt} (h : l.Perm m) : idsB b l = idsB b m := srt_congr ((h.filter _).map _)
theorem lv_new : newC [⟨1, 0, 0⟩, ⟨2, 5, 5⟩] = 0 := by decide
theorem lv_ids : idsB ⟨0, 9, 0, 4⟩ (srtO Pt.less [⟨1, 0, 0⟩, ⟨2, 5, 5⟩]) = [1] := by
  rw [idsB_perm (srtO_perm _)]
  have : ([⟨1, 0, 0⟩, ⟨2, 5, 5⟩] : List Pt).filter (inB ⟨0, 9, 0, 4⟩) = [⟨1, 0, 0⟩] := by decide
  unfold idsB; rw [this]; exact List.mergeSort_singleton ..
theorem lv_ids2 : idsB ⟨0, 5, 0, 4⟩ (srtO Pt.less [⟨1, 0, 0⟩, ⟨2, 5, 5⟩]) = [1] := by
  rw [idsB_perm (srtO_perm _)]
  have : ([⟨1, 0, 0⟩, ⟨2, 5, 5⟩] : List Pt).filter (inB ⟨0, 5, 0, 4⟩) = [⟨1, 0, 0⟩] := by decide
  unfold idsB; rw [this]; exact List.mergeSort_singleton ..
theorem lives17_ctr (L : List HP) : Ctr Try.prog 9 #[] L fun v L' => v = .bool true ∧ L' = L := by
  have hsl : (srtO Pt.less [⟨1, 0, 0⟩, ⟨2, 5, 5⟩]).length = 2 := srtO_length _
  have hi := lv_ids
  have hi2 := lv_ids2
  refine Ctr_of (fn := Try.f9) (n := 37) Try.func9 rfl rfl rfl ?_
  intro g F
  (repeat first | refine G_seq ?_ | refine G_skip ?_ | refine G_endblk ?_ | refine G_block ?_ | refine G_exit rfl ?_)
  refine G_region ?_
  refine GO_q rfl rfl (ev_assign rfl) ?_
  refine GO_nil ?_
  (repeat first | refine G_seq ?_ | refine G_skip ?_ | refine G_endblk ?_ | refine G_block ?_ | refine G_exit rfl ?_)
  refine G_region ?_
  refine GO_q rfl rfl (ev_build rfl rfl) ?_
  refine GO_q rfl rfl (ev_build rfl rfl) ?_
  refine GO_eff rfl rfl (eff_buildSliceN (by rfl) rfl rfl) ?_; rintro _ _ ⟨b7, rfl, rfl⟩
  refine GO_eff rfl rfl (eff_call rfl (RNew_ctr (some ⟨b7, 0, none⟩) 2 2 [⟨1, 0, 0⟩, ⟨2, 5, 5⟩] _ (Rc.blk rfl) (by omega) (Nat.le_refl _) lv_new)) ?_; rintro _ _ ⟨t, T, A, c, N, rfl, rfl, hT⟩
  refine GO_q rfl rfl (ev_move rfl) ?_
  refine GO_q rfl rfl (ev_extract rfl rfl) ?_
  refine GO_q rfl rfl (ev_extract rfl rfl) ?_
  refine GO_q rfl rfl (ev_assign rfl) ?_
  refine GO_q rfl rfl (ev_assign rfl) ?_
  refine GO_nil ?_
  generalize srtO Pt.less [⟨1, 0, 0⟩, ⟨2, 5, 5⟩] = l at *
  have cR := fun M (h : TR M t T A c l) => tReport_ctr h ⟨0, 9, 0, 4⟩ (by omega)
  have cC := fun M (h : TR M t T A c l) => tCount_ctr h ⟨0, 5, 0, 4⟩ (by omega)
  have cK := fun M (h : TR M t T A c l) => tCheck_ctr h (by omega)
  rw [hi] at cR
  rw [hi2] at cC
  (repeat first | refine G_seq ?_ | refine G_skip ?_ | refine G_endblk ?_ | refine G_block ?_ | refine G_exit rfl ?_)
  refine G_region ?_
  refine GO_q rfl rfl (ev_move rfl) ?_
  refine GO_q rfl rfl (ev_build rfl rfl) ?_
  refine GO_eff rfl rfl (eff_call rfl (cR _ hT)) ?_; rintro _ _ ⟨A2, c2, rfl, hA2, rfl⟩
  refine GO_q rfl rfl (ev_assign rfl) ?_
  refine GO_nil ?_
  obtain ⟨ab, rfl⟩ := hA2 (by simp)
  have hld : ∀ L', Ld (own 3 1 (some ⟨ab, 0, none⟩) 1 c2 (flat [(1 : Int)]) :: L') ⟨ab, 0 + 0 * 1, none⟩ (.int .i64 1) := fun L' => Ld.own rfl
  (repeat first | refine G_seq ?_ | refine G_skip ?_ | refine G_endblk ?_ | refine G_block ?_ | refine G_exit rfl ?_)
  refine G_region ?_
  refine GO_q rfl rfl (ev_move rfl) ?_
  refine GO_q rfl rfl (ev_eql rfl rfl) ?_
  refine GO_q rfl rfl (ev_move rfl) ?_
  refine GO_yes rfl rfl rfl rfl ?_
  refine GO_q rfl rfl (ev_move rfl) ?_
  refine GO_yes rfl rfl rfl rfl ?_
  refine GO_q rfl rfl (ev_build rfl rfl) ?_
  refine GO_yes rfl rfl rfl rfl ?_
  refine GO_eff rfl rfl (eff_call rfl (cC _ hT.skip)) ?_; rintro _ _ ⟨rfl, rfl⟩
  refine GO_yes rfl rfl rfl rfl ?_
  refine GO_q rfl rfl (ev_eql rfl rfl) ?_
  refine GO_q rfl rfl (ev_pick_t rfl rfl rfl) ?_
  refine GO_q rfl rfl (ev_move rfl) ?_
  refine GO_yes rfl rfl rfl rfl ?_
  refine GO_q rfl rfl (ev_move rfl) ?_
  refine GO_yes rfl rfl rfl rfl ?_
  refine GO_q rfl rfl (ev_len rfl) ?_
  refine GO_yes rfl rfl rfl rfl ?_
  refine GO_q rfl rfl (ev_eql rfl rfl) ?_
  refine GO_q rfl rfl (ev_pick_t rfl rfl rfl) ?_
  refine GO_q rfl rfl (ev_move rfl) ?_
  refine GO_yes rfl rfl rfl rfl ?_
  refine GO_q rfl rfl (ev_move rfl) ?_
  refine GO_yes rfl rfl rfl rfl ?_
  (first | refine GO_q rfl rfl (ev_indexAddrN rfl rfl (by first | omega | (simp; done) | (simp; omega))) ?_ | refine GO_q rfl rfl (ev_indexAddr rfl rfl (by first | omega | (simp; done) | (simp; omega)) (by first | omega | (simp; done) | (simp; omega))) ?_)
  refine GO_yes rfl rfl rfl rfl ?_
  refine GO_q rfl rfl (ev_load rfl (hld _)) ?_
  refine GO_yes rfl rfl rfl rfl ?_
  refine GO_q rfl rfl (ev_eql rfl rfl) ?_
  refine GO_q rfl rfl (ev_pick_t rfl rfl rfl) ?_
  refine GO_q rfl rfl (ev_move rfl) ?_
  refine GO_yes rfl rfl rfl rfl ?_
  refine GO_q rfl rfl (ev_move rfl) ?_
  refine GO_yes rfl rfl rfl rfl ?_
  refine GO_eff rfl rfl (eff_call rfl (cK _ hT.skip)) ?_; rintro _ _ ⟨rfl, rfl⟩
  refine GO_q rfl rfl (ev_pick_t rfl rfl rfl) ?_
  refine GO_q rfl rfl (ev_assign rfl) ?_
  refine GO_nil ?_
  (repeat first | refine G_seq ?_ | refine G_skip ?_ | refine G_endblk ?_ | refine G_block ?_ | refine G_exit rfl ?_)
  exact G_ret (L' := L) rfl (.tmp rfl .nil) (by (repeat first | exact fun _ s => s | apply en_keep | apply en_drop | apply en_app) <;> fail) ⟨rfl, rfl⟩
end Go.Proofs.Ytejcamnnfmphkaa
/- Points that came in. -/
namespace Go.Proofs.Ytejcamnnfmphkaa
theorem pts_of : ∀ (n : Nat) (ns : List Int), ns.length = n * 3 → ∃ l : List Pt, flat l = ints ns
  | 0, ns, h => ⟨[], by
    have : ns = [] := List.eq_nil_of_length_eq_zero (by simpa using h)
    subst this; rfl⟩
  | n + 1, a :: b :: c :: ns, h => by
    obtain ⟨l, hl⟩ := pts_of n ns (by simp at h; omega)
    exact ⟨⟨a, b, c⟩ :: l, by rw [flat_cons, hl]; rfl⟩
  | n + 1, [], h => by simp at h
  | n + 1, [_], h => by simp at h; omega
  | n + 1, [_, _], h => by simp at h; omega
theorem rd_pts {w : World} {A : Option Addr} {n : Nat} {ns : List Int} (h : Reads w 3 A n (ints ns)) : ∃ l : List Pt, Rd [old w.hm] A n l := by
  obtain ⟨l, hl⟩ := pts_of n ns (by simpa [ints] using h.1)
  refine ⟨l, ?_⟩
  unfold Rd
  rw [hl]
  exact rc_of_reads (by decide) h
end Go.Proofs.Ytejcamnnfmphkaa
/- The law RtreeFlat. -/
namespace Go.Proofs.Ytejcamnnfmphkaa
attribute [local irreducible] sat
open Go.RowKit
set_option linter.unusedVariables false
set_option linter.unusedSimpArgs false
set_option maxRecDepth 100000

instance : IntK Try.prog 5 .u8 := ⟨by kernel_rfl⟩
instance : IntK Try.prog 3 .i64 := ⟨by kernel_rfl⟩
def lineP (i : Nat) : Pt := ⟨(i + 1 : Nat), (i / 3 : Nat), 0 - (i : Int)⟩
def lineL (n : Nat) : List Pt := (List.range n).map lineP
theorem lineL_len (n : Nat) : (lineL n).length = n := by simp [lineL]
theorem lineL_succ (n : Nat) : lineL (n + 1) = lineL n ++ [lineP n] := by simp [lineL, List.range_succ]
theorem lineL_new {n : Nat} (hn : n ≤ 255) : newC (lineL n) = 0 := by
  have h1 : ∀ p ∈ lineL n, goodP p = true := fun p hp => by
    obtain ⟨i, hi, rfl⟩ := List.mem_map.1 hp
    have := List.mem_range.1 hi
    have h3 : i / 3 ≤ 255 := by omega
    have e1 : goodId ((i + 1 : Nat) : Int) = true := by simp only [goodId, Bool.and_eq_true, decide_eq_true_eq]; omega
    have e2 : good ((i / 3 : Nat) : Int) = true := by simp only [good, Bool.and_eq_true, decide_eq_true_eq]; omega
    have e3 : good (0 - (i : Int)) = true := by simp only [good, Bool.and_eq_true, decide_eq_true_eq]; omega
    show (goodId _ && (good _ && good _)) = true
    rw [show (lineP i).id = ((i + 1 : Nat) : Int) from rfl, show (lineP i).x = ((i / 3 : Nat) : Int) from rfl, show (lineP i).y = 0 - (i : Int) from rfl, e1, e2, e3]; rfl
  have h2 : (lineL n).Nodup := by
    unfold lineL
    rw [List.nodup_iff_pairwise_ne, List.pairwise_map]
    refine (List.nodup_iff_pairwise_ne.1 (List.nodup_range (n := n))).imp fun {a b} hne e => hne ?_
    have : (lineP a).id = (lineP b).id := by rw [e]
    simp only [lineP] at this; omega
  unfold newC; rw [if_pos h1, if_pos h2]
theorem lineL_ids {n : Nat} (hn : n ≤ 255) : (idsB ⟨0, 300, -300, 0⟩ (lineL n)).length = n := by
  unfold idsB
  rw [srtI_len, List.length_map]
  have : (lineL n).filter (inB ⟨0, 300, -300, 0⟩) = lineL n := List.filter_eq_self.2 fun p hp => by
    obtain ⟨i, hi, rfl⟩ := List.mem_map.1 hp
    have := List.mem_range.1 hi
    have h3 : i / 3 ≤ 255 := by omega
    have e2 : wthn ((i / 3 : Nat) : Int) 0 300 = true := by simp only [wthn, decide_eq_true_eq]; omega
    have e3 : wthn (0 - (i : Int)) (-300) 0 = true := by simp only [wthn, decide_eq_true_eq]; omega
    show (wthn _ _ _ && wthn _ _ _) = true
    rw [show (lineP i).x = ((i / 3 : Nat) : Int) from rfl, show (lineP i).y = 0 - (i : Int) from rfl, e2, e3]; rfl
  rw [this, lineL_len]
theorem RT.of.lv_le {T : RT} {l : List Pt} (h : T.of l) {k : Nat} (h0 : l.length = 0 → k = 0) (h1 : 0 < l.length → ∃ j, k = j + 1 ∧ l.length ≤ 2 ^ j) : T.lv ≤ k := by
  rcases Nat.eq_zero_or_pos l.length with e | e
  · have : l = [] := List.eq_nil_of_length_eq_zero e
    subst this
    cases T with
    | nil => exact Nat.zero_le _
    | node => obtain ⟨⟨p, hp, _⟩, _⟩ := h; simp at hp
  · obtain ⟨j, rfl, hj⟩ := h1 e
    exact h.lv j hj
theorem RtreeFlat_ctr (A : Option Addr) (n c : Nat) (l : List Pt) (m : Nat) (hm : m ≤ 255) (L : List HP) (hl : Rd L A n l) (hc : n ≤ c) (hc2 : c ≤ maxLen) :
    Ctr Try.prog 5 #[.slice A n c, .int .u8 (m : Nat)] L fun v L' => v = .bool true ∧ L' = L := by
  have hl60 : (l.take 60).length ≤ 60 := List.length_take_le _ _
  have t1 : (l.take 60).take 60 = l.take 60 := by rw [List.take_take]; rfl
  obtain ⟨l1, g1⟩ : ∃ l1, l.take 60 = l1 := ⟨_, rfl⟩
  rw [g1] at hl60 t1
  refine Ctr_of (fn := Try.f5) (n := 94) Try.func5 rfl rfl rfl ?_
  intro g F
  (repeat first | refine G_seq ?_ | refine G_skip ?_ | refine G_endblk ?_ | refine G_block ?_ | refine G_exit rfl ?_)
  refine G_region ?_
  refine GO_q rfl rfl (ev_assign rfl) ?_
  refine GO_nil ?_
  (repeat first | refine G_seq ?_ | refine G_skip ?_ | refine G_endblk ?_ | refine G_block ?_ | refine G_exit rfl ?_)
  refine G_region ?_
  refine GO_q rfl rfl (ev_move rfl) ?_
  refine GO_eff rfl rfl (eff_call rfl (Ctr.frame [F] (Few_ctr A n c l 60 L hl hc hc2 (by omega)) (fun _ s => s))) ?_; rintro _ _ ⟨M1, ⟨A1, c1', N1, rfl, u1, u2, rfl, u3⟩, rfl⟩
  refine GO_q rfl rfl (ev_assign rfl) ?_
  refine GO_nil ?_
  rw [g1] at u1 u3
  rw [g1]
  have hML : ∀ h, sat (N1 ++ L) h → sat L h := en_app en_refl
  generalize N1 ++ L = M at *
  by_cases h0 : newC l1 = 0
  · have cF := Few_ctr A1 _ c1' l1 60 M u3 u1 u2 (by omega)
    rw [t1] at cF
    (repeat first | refine G_seq ?_ | refine G_skip ?_ | refine G_endblk ?_ | refine G_block ?_ | refine G_exit rfl ?_)
    refine G_region ?_
    refine GO_q rfl rfl (ev_move rfl) ?_
    refine GO_eff rfl rfl (eff_call rfl (Ctr.frame [F] cF (fun _ s => s))) ?_; rintro _ _ ⟨M3, ⟨A2, c2', N3, rfl, x1, x2, rfl, x3⟩, rfl⟩
    refine GO_eff rfl rfl (eff_call rfl (Ctr.frame [F] (RNew_ctr A2 _ c2' l1 (N3 ++ M) x3 (by omega) x1 h0) (fun _ s => s))) ?_; rintro _ _ ⟨M4, ⟨t, T, At, ct, N4, rfl, rfl, hT⟩, rfl⟩
    refine GO_q rfl rfl (ev_move rfl) ?_
    refine GO_q rfl rfl (ev_extract rfl rfl) ?_
    refine GO_q rfl rfl (ev_extract rfl rfl) ?_
    refine GO_q rfl rfl (ev_assign rfl) ?_
    refine GO_q rfl rfl (ev_assign rfl) ?_
    refine GO_nil ?_
    have u4 : Rd (N4 ++ (N3 ++ M)) A1 l1.length l1 := u3.app.app
    have hML2 : ∀ h, sat (N4 ++ (N3 ++ M)) h → sat L h := en_app (en_app hML)
    clear hML u3
    generalize N4 ++ (N3 ++ M) = M2 at *
    have cG := fun M h => RGood17_ctr A1 l1.length c1' l1 M h (by omega)
    rw [h0] at cG
    (repeat first | refine G_seq ?_ | refine G_skip ?_ | refine G_endblk ?_ | refine G_block ?_ | refine G_exit rfl ?_)
    refine G_region ?_
    refine GO_q rfl rfl (ev_move rfl) ?_
    refine GO_eff rfl rfl (eff_call rfl (cG _ u4.skip)) ?_; rintro _ _ ⟨rfl, rfl⟩
    refine GO_q rfl rfl (ev_neq rfl rfl) ?_
    refine GO_nil ?_
    (repeat first | refine G_seq ?_ | refine G_skip ?_ | refine G_endblk ?_ | refine G_block ?_ | refine G_exit rfl ?_)
    refine G_cond_f rfl rfl ?_
    (repeat first | refine G_seq ?_ | refine G_skip ?_ | refine G_endblk ?_ | refine G_block ?_ | refine G_exit rfl ?_)
    refine G_region ?_
    refine GO_eff rfl rfl eff_buildSlice0 ?_; rintro _ _ ⟨b31, rfl, rfl⟩
    refine GO_q rfl rfl (ev_assign rfl) ?_
    refine GO_nil ?_
    (repeat first | refine G_seq ?_ | refine G_skip ?_ | refine G_endblk ?_ | refine G_block ?_ | refine G_exit rfl ?_)
    refine G_region ?_
    refine GO_q rfl rfl (ev_assign rfl) ?_
    refine GO_nil ?_
    (repeat first | refine G_seq ?_ | refine G_skip ?_ | refine G_endblk ?_ | refine G_block ?_ | refine G_exit rfl ?_)
    refine G_loop (ι := Nat × Nat × Nat) (fun z => [(0, .slice A1 l1.length c1'), (1, .int .u8 (m : Nat)), (5, .pointer (some ⟨t, 0, none⟩)), (6, .int .i64 0), (7, .slice (some ⟨z.2.1, 0, none⟩) z.1 z.2.2), (8, .int .i64 (z.1 : Nat))]) (fun z => own 37 3 (some ⟨z.2.1, 0, none⟩) z.1 z.2.2 (flat (lineL z.1)) :: F :: M2) (fun z => z.1 ≤ m ∧ z.1 ≤ z.2.2 ∧ z.2.2 ≤ maxLen) (fun z => m - z.1) (0, b31, 0) ⟨Nat.zero_le _, Nat.le_refl _, Nat.zero_le _⟩ ⟨rfl, rfl, rfl, rfl, rfl, rfl, trivial⟩ (by (repeat first | exact fun _ s => s | apply en_keep | apply en_drop | apply en_app) <;> fail) ?_
    rintro ⟨k, d, e⟩ ⟨f1, f2, f3⟩
    simp only at f1 f2 f3
    dsimp only
    (repeat first | refine G_seq ?_ | refine G_skip ?_ | refine G_endblk ?_ | refine G_block ?_ | refine G_exit rfl ?_)
    refine G_region ?_
    refine GO_q rfl rfl (ev_move rfl) ?_
    refine GO_q rfl rfl (ev_move rfl) ?_
    refine GO_q rfl rfl (ev_convU rfl (by omega)) ?_
    (first | refine GO_q rfl rfl (ev_lssN rfl rfl) ?_ | refine GO_q rfl rfl (ev_lss rfl rfl) ?_)
    refine GO_nil ?_
    (repeat first | refine G_seq ?_ | refine G_skip ?_ | refine G_endblk ?_ | refine G_block ?_ | refine G_exit rfl ?_)
    refine G_cond rfl (fun c1 => ?_) (fun c1 => ?_)
    · (repeat first | refine G_seq ?_ | refine G_skip ?_ | refine G_endblk ?_ | refine G_block ?_ | refine G_exit rfl ?_)
      refine G_region ?_
      refine GO_q rfl rfl (ev_move rfl) ?_
      refine GO_q rfl rfl (ev_move rfl) ?_
      (first | refine GO_q rfl rfl (ev_addN (q := 1) rfl rfl (by first | omega | (simp; done) | (simp; omega))) ?_ | refine GO_q rfl rfl (ev_add rfl rfl (by first | omega | (simp; done) | (simp; omega))) ?_)
      refine GO_q rfl rfl (ev_move rfl) ?_
      refine GO_q rfl rfl (ev_quoN (q := 3) rfl rfl (by omega) (by omega)) ?_
      refine GO_q rfl rfl (ev_move rfl) ?_
      refine GO_q rfl rfl (ev_neg rfl (by first | omega | (simp; done) | (simp; omega))) ?_
      refine GO_q rfl rfl (ev_build rfl rfl) ?_
      refine GO_eff rfl rfl (eff_buildSlice1 (by rfl) rfl rfl) ?_; rintro _ _ ⟨b46, rfl, rfl⟩
      refine GO_eff rfl rfl (eff_append rfl rfl (by repeat' first | exact Pick.here | apply Pick.skip) (by repeat' first | exact Rc.blk rfl | assumption | apply Rc.skip) (one_all rfl) (by rfl) (by decide) (by first | omega | (simp; done) | (simp; omega)) (by first | omega | (simp; done) | (simp; omega))) ?_; rintro _ _ ⟨A47, c47, rfl, hc47, hm47, hn47, rfl⟩
      refine GO_q rfl rfl (ev_assign rfl) ?_
      refine GO_nil ?_
      (repeat first | refine G_seq ?_ | refine G_skip ?_ | refine G_endblk ?_ | refine G_block ?_ | refine G_exit rfl ?_)
      refine G_region ?_
      refine GO_q rfl rfl (ev_move rfl) ?_
      (first | refine GO_q rfl rfl (ev_addN (q := 1) rfl rfl (by first | omega | (simp; done) | (simp; omega))) ?_ | refine GO_q rfl rfl (ev_add rfl rfl (by first | omega | (simp; done) | (simp; omega))) ?_)
      refine GO_q rfl rfl (ev_assign rfl) ?_
      refine GO_nil ?_
      (repeat first | refine G_seq ?_ | refine G_skip ?_ | refine G_endblk ?_ | refine G_block ?_ | refine G_exit rfl ?_)
      obtain ⟨b9, rfl⟩ := hn47 (by omega)
      refine G_round (k + 1, b9, c47) ⟨by simp only; omega, by simp only; omega, by simp only; omega⟩ (by simp only; omega) ⟨rfl, rfl, rfl, rfl, rfl, rfl, trivial⟩ ?_
      dsimp only
      rw [lineL_succ, flat_append]
      exact (by (repeat first | exact en_refl | (apply en_blk; focus ((repeat' first | exact Pick.here | apply Pick.skip | apply Pick.app); done); focus rfl) | (apply en_own; focus ((repeat' first | exact Pick.here | apply Pick.skip | apply Pick.app); done); focus rfl) | (apply en_pick; focus ((repeat' first | exact Pick.here | apply Pick.skip | apply Pick.app); done)) | apply en_drop | apply en_app) <;> fail)
    · have e0 : k = m := by omega
      subst e0
      have hll := lineL_len k
      have hli := lineL_ids (n := k) (by omega)
      have hnw := lineL_new (n := k) (by omega)
      have hr : ∀ M, Rd (own 37 3 (some ⟨d, 0, none⟩) k e (flat (lineL k)) :: M) (some ⟨d, 0, none⟩) k (lineL k) := fun M => Rc.own (by rw [flat_length, hll]; rfl) (fun _ => ⟨d, rfl⟩)
      have hid : (idsB ⟨0, 300, -300, 0⟩ (srtO Pt.less (lineL k))).length = k := by rw [idsB_perm (srtO_perm _), hli]
      have hsl : (srtO Pt.less (lineL k)).length = k := by rw [srtO_length, hll]
      have hsl1 : (srtO Pt.less l1).length = l1.length := srtO_length _
      (repeat first | refine G_seq ?_ | refine G_skip ?_ | refine G_endblk ?_ | refine G_block ?_ | refine G_exit rfl ?_)
      refine G_region ?_
      refine GO_q rfl rfl (ev_move rfl) ?_
      refine GO_eff rfl rfl (eff_call rfl (RNew_ctr (some ⟨d, 0, none⟩) k e (lineL k) _ (hr _) (by omega) f2 hnw)) ?_; rintro _ _ ⟨u, U, Au, cu, N9, rfl, rfl, hU⟩
      refine GO_q rfl rfl (ev_move rfl) ?_
      refine GO_q rfl rfl (ev_extract rfl rfl) ?_
      refine GO_q rfl rfl (ev_extract rfl rfl) ?_
      refine GO_q rfl rfl (ev_assign rfl) ?_
      refine GO_q rfl rfl (ev_assign rfl) ?_
      refine GO_nil ?_
      have v1 := fun j => hT.o.lv j
      have v2 := fun j => hU.o.lv j
      have w1 := fun {j} => hT.o.lv_le (k := j)
      have w2 := fun {j} => hU.o.lv_le (k := j)
      rw [hsl1] at v1 w1
      rw [hsl] at v2 w2
      have s1 := v1 6 (by omega)
      have s2 := v2 8 (by omega)
      have cC := fun M (h : TR M u U Au cu (srtO Pt.less (lineL k))) => tCount_ctr h ⟨0, 300, -300, 0⟩ (by omega)
      rw [hid] at cC
      have cK1 := fun M (h : TR M t T At ct (srtO Pt.less l1)) => tCheck_ctr h (by omega)
      have cK2 := fun M (h : TR M u U Au cu (srtO Pt.less (lineL k))) => tCheck_ctr h (by omega)
      have cV1 := fun M (h : TR M t T At ct (srtO Pt.less l1)) => tLevels_ctr h (by omega)
      have cV2 := fun M (h : TR M u U Au cu (srtO Pt.less (lineL k))) => tLevels_ctr h (by omega)
      (repeat first | refine G_seq ?_ | refine G_skip ?_ | refine G_endblk ?_ | refine G_block ?_ | refine G_exit rfl ?_)
      refine G_region ?_
      refine GO_q rfl rfl (ev_move rfl) ?_
      refine GO_q rfl rfl (ev_eql rfl rfl) ?_
      refine GO_q rfl rfl (ev_move rfl) ?_
      refine GO_yes rfl rfl rfl rfl ?_
      refine GO_q rfl rfl (ev_move rfl) ?_
      refine GO_yes rfl rfl rfl rfl ?_
      refine GO_q rfl rfl (ev_eql rfl rfl) ?_
      refine GO_q rfl rfl (ev_pick_t rfl rfl rfl) ?_
      refine GO_q rfl rfl (ev_move rfl) ?_
      refine GO_yes rfl rfl rfl rfl ?_
      refine GO_q rfl rfl (ev_move rfl) ?_
      refine GO_yes rfl rfl rfl rfl ?_
      refine GO_eff rfl rfl (eff_call rfl (cK1 _ (by repeat' first | exact hT | apply TR.skip | apply TR.app))) ?_; rintro _ _ ⟨rfl, rfl⟩
      refine GO_q rfl rfl (ev_pick_t rfl rfl rfl) ?_
      refine GO_q rfl rfl (ev_move rfl) ?_
      refine GO_yes rfl rfl rfl rfl ?_
      refine GO_q rfl rfl (ev_move rfl) ?_
      refine GO_yes rfl rfl rfl rfl ?_
      refine GO_eff rfl rfl (eff_call rfl (cK2 _ hU)) ?_; rintro _ _ ⟨rfl, rfl⟩
      refine GO_q rfl rfl (ev_pick_t rfl rfl rfl) ?_
      refine GO_q rfl rfl (ev_move rfl) ?_
      refine GO_yes rfl rfl rfl rfl ?_
      refine GO_q rfl rfl (ev_move rfl) ?_
      refine GO_yes rfl rfl rfl rfl ?_
      refine GO_eff rfl rfl (eff_call rfl (cV1 _ (by repeat' first | exact hT | apply TR.skip | apply TR.app))) ?_; rintro _ _ ⟨rfl, rfl⟩
      refine GO_yes rfl rfl rfl rfl ?_
      refine GO_q rfl rfl (ev_move rfl) ?_
      refine GO_yes rfl rfl rfl rfl ?_
      refine GO_q rfl rfl (ev_len rfl) ?_
      refine GO_yes rfl rfl rfl rfl ?_
      refine GO_eff rfl rfl (eff_call rfl (RLevels_ctr l1.length _ (by omega))) ?_; rintro _ _ ⟨⟨j1, rfl, q1, q2, q3⟩, rfl⟩
      refine GO_yes rfl rfl rfl rfl ?_
      refine GO_q rfl rfl (ev_leq rfl rfl) ?_
      refine GO_q rfl rfl (ev_pick_t rfl rfl rfl) ?_
      refine GO_q rfl rfl (ev_move rfl) ?_
      refine GO_yes rfl rfl rfl (decide_eq_true (by have := w1 q1 q2; omega)) ?_
      refine GO_q rfl rfl (ev_move rfl) ?_
      refine GO_yes rfl rfl rfl (decide_eq_true (by have := w1 q1 q2; omega)) ?_
      refine GO_eff rfl rfl (eff_call rfl (cV2 _ hU)) ?_; rintro _ _ ⟨rfl, rfl⟩
      refine GO_yes rfl rfl rfl (decide_eq_true (by have := w1 q1 q2; omega)) ?_
      refine GO_q rfl rfl (ev_move rfl) ?_
      refine GO_yes rfl rfl rfl (decide_eq_true (by have := w1 q1 q2; omega)) ?_
      refine GO_q rfl rfl (ev_convU rfl (by omega)) ?_
      refine GO_yes rfl rfl rfl (decide_eq_true (by have := w1 q1 q2; omega)) ?_
      refine GO_eff rfl rfl (eff_call rfl (RLevels_ctr k _ (by omega))) ?_; rintro _ _ ⟨⟨j2, rfl, p1, p2, p3⟩, rfl⟩
      refine GO_yes rfl rfl rfl (decide_eq_true (by have := w1 q1 q2; omega)) ?_
      refine GO_q rfl rfl (ev_leq rfl rfl) ?_
      refine GO_q rfl rfl (ev_pick_t rfl (decide_eq_true (by have := w1 q1 q2; omega)) rfl) ?_
      refine GO_q rfl rfl (ev_move rfl) ?_
      refine GO_yes rfl rfl rfl (decide_eq_true (by have := w2 p1 p2; omega)) ?_
      refine GO_q rfl rfl (ev_move rfl) ?_
      refine GO_yes rfl rfl rfl (decide_eq_true (by have := w2 p1 p2; omega)) ?_
      refine GO_q rfl rfl (ev_build rfl rfl) ?_
      refine GO_yes rfl rfl rfl (decide_eq_true (by have := w2 p1 p2; omega)) ?_
      refine GO_eff rfl rfl (eff_call rfl (cC _ hU)) ?_; rintro _ _ ⟨rfl, rfl⟩
      refine GO_yes rfl rfl rfl (decide_eq_true (by have := w2 p1 p2; omega)) ?_
      refine GO_q rfl rfl (ev_move rfl) ?_
      refine GO_yes rfl rfl rfl (decide_eq_true (by have := w2 p1 p2; omega)) ?_
      refine GO_q rfl rfl (ev_convU rfl (by omega)) ?_
      refine GO_yes rfl rfl rfl (decide_eq_true (by have := w2 p1 p2; omega)) ?_
      refine GO_q rfl rfl (ev_eql rfl rfl) ?_
      refine GO_q rfl rfl (ev_pick_t rfl (decide_eq_true (by have := w2 p1 p2; omega)) rfl) ?_
      refine GO_q rfl rfl (ev_move rfl) ?_
      refine GO_yes rfl rfl rfl (decide_eq_true rfl) ?_
      refine GO_eff rfl rfl (eff_call rfl (lives17_ctr _)) ?_; rintro _ _ ⟨rfl, rfl⟩
      refine GO_q rfl rfl (ev_pick_t rfl (decide_eq_true rfl) rfl) ?_
      refine GO_q rfl rfl (ev_assign rfl) ?_
      refine GO_nil ?_
      (repeat first | refine G_seq ?_ | refine G_skip ?_ | refine G_endblk ?_ | refine G_block ?_ | refine G_exit rfl ?_)
      exact G_ret (L' := L) rfl (.tmp rfl .nil) (by (repeat first | exact en_keep hML2 | apply en_drop | apply en_app) <;> fail) ⟨rfl, rfl⟩
  · have cF := Few_ctr A1 _ c1' l1 60 M u3 u1 u2 (by omega)
    rw [t1] at cF
    (repeat first | refine G_seq ?_ | refine G_skip ?_ | refine G_endblk ?_ | refine G_block ?_ | refine G_exit rfl ?_)
    refine G_region ?_
    refine GO_q rfl rfl (ev_move rfl) ?_
    refine GO_eff rfl rfl (eff_call rfl (Ctr.frame [F] cF (fun _ s => s))) ?_; rintro _ _ ⟨M3, ⟨A2, c2', N3, rfl, x1, x2, rfl, x3⟩, rfl⟩
    refine GO_eff rfl rfl (eff_call rfl (Ctr.frame [F] (RNewBad_ctr A2 _ c2' l1 (N3 ++ M) x3 (by omega) x1 h0) (fun _ s => s))) ?_; rintro _ _ ⟨M4, ⟨rfl, rfl⟩, rfl⟩
    refine GO_q rfl rfl (ev_move rfl) ?_
    refine GO_q rfl rfl (ev_extract rfl rfl) ?_
    refine GO_q rfl rfl (ev_extract rfl rfl) ?_
    refine GO_q rfl rfl (ev_assign rfl) ?_
    refine GO_q rfl rfl (ev_assign rfl) ?_
    refine GO_nil ?_
    have u4 : Rd (N3 ++ M) A1 l1.length l1 := u3.app
    have hML2 : ∀ h, sat (N3 ++ M) h → sat L h := en_app hML
    clear hML u3 x3
    generalize N3 ++ M = M2 at *
    have cG := fun M h => RGood17_ctr A1 l1.length c1' l1 M h (by omega)
    (repeat first | refine G_seq ?_ | refine G_skip ?_ | refine G_endblk ?_ | refine G_block ?_ | refine G_exit rfl ?_)
    refine G_region ?_
    refine GO_q rfl rfl (ev_move rfl) ?_
    refine GO_eff rfl rfl (eff_call rfl (cG _ u4.skip)) ?_; rintro _ _ ⟨rfl, rfl⟩
    refine GO_q rfl rfl (ev_neq rfl rfl) ?_
    refine GO_nil ?_
    (repeat first | refine G_seq ?_ | refine G_skip ?_ | refine G_endblk ?_ | refine G_block ?_ | refine G_exit rfl ?_)
    refine G_cond_t rfl (by simpa using h0) ?_
    (repeat first | refine G_seq ?_ | refine G_skip ?_ | refine G_endblk ?_ | refine G_block ?_ | refine G_exit rfl ?_)
    refine G_region ?_
    refine GO_q rfl rfl (ev_move rfl) ?_
    (first | refine GO_q rfl rfl (ev_eqlNil rfl rfl) ?_ | refine GO_q rfl rfl (ev_eqlPtr rfl rfl) ?_)
    refine GO_q rfl rfl (ev_move rfl) ?_
    refine GO_yes rfl rfl rfl rfl ?_
    refine GO_q rfl rfl (ev_move rfl) ?_
    refine GO_yes rfl rfl rfl rfl ?_
    refine GO_q rfl rfl (ev_neq rfl rfl) ?_
    refine GO_q rfl rfl (ev_pick_t rfl rfl rfl) ?_
    refine GO_q rfl rfl (ev_move rfl) ?_
    refine GO_yes rfl rfl rfl (by simpa using h0) ?_
    refine GO_eff rfl rfl (eff_call rfl (lives17_ctr _)) ?_; rintro _ _ ⟨rfl, rfl⟩
    refine GO_q rfl rfl (ev_pick_t rfl (by simpa using h0) rfl) ?_
    refine GO_q rfl rfl (ev_assign rfl) ?_
    refine GO_nil ?_
    (repeat first | refine G_seq ?_ | refine G_skip ?_ | refine G_endblk ?_ | refine G_block ?_ | refine G_exit rfl ?_)
    exact G_ret (L' := L) rfl (.tmp rfl .nil) (en_keep hML2) ⟨rfl, rfl⟩
theorem rtreeFlat_walk (A : Option Addr) (n c : Nat) (ns : List Int) (m : Int) (w : World) (hc : n ≤ c) (hc2 : c ≤ maxLen) (h1 : Reads w 3 A n (ints ns)) (hm : (Lit.int .u8 m).wf = true) :
    Calls Try.prog 5 #[.slice A n c, .int .u8 m] w fun e w' => e = .returned (.bool true) ∧ Below w.heap.size w w' := by
  obtain ⟨m, rfl, h2⟩ := bounds_u8 hm
  obtain ⟨l, hl⟩ := rd_pts h1
  exact law_of_ctr (RtreeFlat_ctr A n c l m h2 _ hl hc hc2)
end Go.Proofs.Ytejcamnnfmphkaa
