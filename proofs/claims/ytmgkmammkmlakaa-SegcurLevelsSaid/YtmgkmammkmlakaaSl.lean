/- Slices that a call has for itself: parts of them; copy, clear, append onto a part. No program stands in this text. -/
import Derived.Test.YtmgkmammkmlakaaApp
import Derived.Lib.Overlaps
import Derived.Lib.AppendZeros
namespace Go.Proofs.Ytmgkmammkmlakaa
open Go.RowKit
set_option linter.unusedVariables false
set_option linter.unusedSimpArgs false
set_option linter.unusedSectionVars false

theorem setN_eq : ∀ (cs : List Value) (i : Nat) (vs : List Value), i + vs.length ≤ cs.length → setN cs i vs = cs.take i ++ vs ++ cs.drop (i + vs.length)
  | [], i, vs, h => by
    have : vs = [] := List.eq_nil_of_length_eq_zero (by simp only [List.length_nil] at h; omega)
    subst this
    simp [setN]
  | c :: cs, i, [], h => by rw [setN_nil]; simp
  | c :: cs, 0, v :: vs, h => by
    have e := setN_eq cs 0 vs (by simpa using h)
    simp only [setN, e]
    simp
  | c :: cs, i + 1, v :: vs, h => by
    have e := setN_eq cs i (v :: vs) (by simp at h ⊢; omega)
    simp only [setN, e, List.take_succ_cons, List.cons_append]
    rw [show i + 1 + (v :: vs).length = (i + (v :: vs).length) + 1 by omega, List.drop_succ_cons]
theorem splice_take (cs ys : List Value) (p N : Nat) (h : p + ys.length ≤ N) (hN : N ≤ cs.length) :
    (cs.take p ++ ys ++ cs.drop (p + ys.length)).take N = (cs.take N).take p ++ ys ++ (cs.take N).drop (p + ys.length) := by
  apply List.ext_getElem?
  intro j
  simp only [List.getElem?_append, List.getElem?_take, List.getElem?_drop, List.length_append, List.length_take, List.length_drop]
  repeat' split
  all_goals first
    | rfl
    | omega
    | (congr 1; omega)
    | (exfalso; omega)
section
variable {e sz n c b : Nat} {A : Option Addr} {xs : List Value} {h : Hm}
theorem own.opn (o : own e sz (some ⟨b, 0, none⟩) n c xs h) : ∃ cs, blk b e cs h ∧ cs.length = c * sz ∧ cs.take (n * sz) = xs := by
  rcases o.arr with ⟨e1, _⟩ | ⟨b', cur, e1, e2, e3, e4⟩
  · cases e1
  · simp only [Option.some.injEq, Addr.mk.injEq, and_true] at e1
    subst e1
    exact ⟨cur.toList, ⟨by simpa using e2⟩, by simpa using e3, e4⟩
theorem own.cls {cs : List Value} (k : blk b e cs h) (hl : cs.length = c * sz) (hn : n ≤ c) (hc : c ≤ maxLen) : own e sz (some ⟨b, 0, none⟩) n c (cs.take (n * sz)) h :=
  ⟨by rw [List.length_take, hl]; exact Nat.min_eq_left (Nat.mul_le_mul_right _ hn), hn, hc, .inr ⟨b, cs.toArray, rfl, k.eq, by simpa using hl, rfl⟩⟩
theorem own.less (o : own e sz A n c xs h) {i : Nat} (hi : i ≤ n) : own e sz A i c (xs.take (i * sz)) h := by
  have hm : i * sz ≤ n * sz := Nat.mul_le_mul_right _ hi
  refine ⟨by rw [List.length_take, o.len]; exact Nat.min_eq_left hm, Nat.le_trans hi o.le, o.cap, ?_⟩
  rcases o.arr with ⟨e1, e2, e3⟩ | ⟨b', cur, e1, e2, e3, e4⟩
  · exact .inl ⟨e1, by omega, e3⟩
  · refine .inr ⟨b', cur, e1, e2, e3, ?_⟩
    rw [← e4, List.take_take, Nat.min_eq_left hm]
theorem own.more (o : own e sz (some ⟨b, 0, none⟩) n c xs h) {k : Nat} (h1 : n ≤ k) (h2 : k ≤ c) : ∃ zs : List Value, zs.length = (k - n) * sz ∧ own e sz (some ⟨b, 0, none⟩) k c (xs ++ zs) h := by
  obtain ⟨cs, hb, hcl, htk⟩ := o.opn
  have hm : n * sz ≤ k * sz := Nat.mul_le_mul_right _ h1
  have hm2 : k * sz ≤ c * sz := Nat.mul_le_mul_right _ h2
  refine ⟨(cs.take (k * sz)).drop (n * sz), by rw [List.length_drop, List.length_take, hcl, Nat.sub_mul]; omega, ?_⟩
  have : xs ++ (cs.take (k * sz)).drop (n * sz) = cs.take (k * sz) := by
    rw [← htk]
    have := List.take_append_drop (n * sz) (cs.take (k * sz))
    rw [List.take_take, Nat.min_eq_left hm] at this
    exact this
  rw [this]
  exact own.cls hb hcl h2 o.cap
end
section
variable {P : Program} {g : Glob} {L M : List HP} {σ : Env} {d : Option Nat} {ty T T' : TypeId} {pos : String} {aft : Array Edge} {gd : Option (Nat × Bool)} {x y z : Operand} {v u : Value}
theorem one_of_oneC {ys : List Value} (h : ∀ u ∈ ys, u.oneCell' = true) : ∀ u ∈ ys, oneC u = true := fun u hu => by
  have := h u hu
  cases u <;> first | rfl | (simp [Value.oneCell'] at this)
theorem firstCells_rc {sz n m q : Nat} {B : Option Addr} {ys : List Value} {w : World} (hr : Rc L sz B m ys) (hw : sat L w.hm) (hn : n ≤ m) : (Builtin.firstCells sz n (.slice B m q)).run P w = .ok (ys.take (n * sz)).toArray w := by
  have hlen : (ys.take (n * sz)).length = n * sz := by
    rw [List.length_take, hr.1]
    exact Nat.min_eq_left (Nat.mul_le_mul_right _ hn)
  have key : ∀ a : Addr, (∀ j v, (ys.take (n * sz))[j]? = some v → w.cell? (a.add j) = some v) → (loadCells a (n * sz)).run P w = .ok (ys.take (n * sz)).toArray w := fun a h => by
    have := run_loadCells_list (P := P) w a (ys.take (n * sz)) h
    rwa [hlen] at this
  rcases Nat.eq_zero_or_pos n with h0 | h0
  · subst h0
    cases B with
    | none => simp [Builtin.firstCells]
    | some a =>
      show (loadCells a (0 * sz)).run P w = _
      exact key a (by simp)
  · obtain ⟨b, o, rfl, hc⟩ := hr.2 (by omega)
    show (loadCells ⟨b, o, none⟩ (n * sz)).run P w = _
    refine key _ fun j v hj => ?_
    rw [Addr.add_lit]
    refine (hc j v ?_).1 _ hw
    rw [List.getElem?_take] at hj
    split at hj
    · exact hj
    · cases hj
theorem one_take {ys : List Value} (h : ∀ u ∈ ys, u.oneCell' = true) (k : Nat) : ∀ u ∈ ys.take k, u.oneCell' = true := fun u hu => h u (List.mem_of_mem_take hu)
theorem sat.none_ {h : Hm} : sat [] h := trivial
theorem sat.one {X : HP} {h : Hm} (x : X h) : sat [X] h := ⟨h, fun _ => none, fun _ => .inr rfl, hSub.refl _, fun _ _ e => (by cases e), x, trivial⟩
theorem en_less {e sz n c i : Nat} {A : Option Addr} {xs xs' : List Value} {L M N : List HP} (h : Pick (own e sz A n c xs) L M) (hi : i ≤ n) (ex : xs.take (i * sz) = xs') (f : ∀ h, sat M h → sat N h) : ∀ h, sat L h → sat (own e sz A i c xs' :: N) h := fun _ s =>
  sat.head (N := [own e sz A i c xs']) (fun h o => sat.one (ex ▸ o.less hi)) ((s.perm h.perm).cons_mono f)
/-- From k on; 'c' is the capacity that the whole has. -/
theorem Rc.drop {L : List HP} {sz b o n : Nat} {xs : List Value} (h : Rc L sz (some ⟨b, o, none⟩) n xs) {k c : Nat} (hk : k ≤ n) (hc : n ≤ c) : Rc L sz (some ⟨b, (if c = k then o else o + k * sz), none⟩) (n - k) (xs.drop (k * sz)) := by
  refine ⟨by rw [List.length_drop, h.1, Nat.sub_mul], fun h0 => ?_⟩
  obtain ⟨b', o', e, f⟩ := h.2 (by omega)
  simp only [Option.some.injEq, Addr.mk.injEq, and_true] at e
  obtain ⟨rfl, rfl⟩ := e
  refine ⟨b, o + k * sz, by rw [if_neg (by omega)], fun j v hj => ?_⟩
  rw [List.getElem?_drop] at hj
  rw [Nat.add_assoc]
  exact f _ _ hj
/-- copy, into a slice of the call's own. -/
theorem eff_copy {e sz by_ b o k n c dl dc m q : Nat} {B : Option Addr} {xs ys : List Value} [H : SliceT P T (e, sz, by_)] (hx : ev σ x = some (.slice (some ⟨b, o, none⟩) dl dc)) (hy : ev σ y = some (.slice B m q))
    (hp : Pick (own e sz (some ⟨b, 0, none⟩) n c xs) L M) (hr : Rc L sz B m ys) (h1 : ∀ u ∈ ys.take (min m dl * sz), u.oneCell' = true) (ho : 0 < min m dl → o = k * sz) (hk : k + min m dl ≤ n) :
    Eff P g L σ ⟨d, .call ⟨.builtin .copy, #[x, y], #[T, T']⟩, ty, pos, aft, gd⟩ fun r L' => r = .int .i64 (min m dl : Nat) ∧ L' = own e sz (some ⟨b, 0, none⟩) n c (xs.take (k * sz) ++ ys.take (min m dl * sz) ++ xs.drop ((k + min m dl) * sz)) :: M := fun a w hs hw K Q hK => by
  obtain ⟨hu, i, hi, hsz, _⟩ := H.spec
  have hw' : Hp g (own e sz (some ⟨b, 0, none⟩) n c xs :: M) w := hw.mono fun _ => sat.perm hp.perm
  obtain ⟨k1, k2, dj, s1, s2, ow, l⟩ := hw'.s
  obtain ⟨cs, hb, hcl, htk⟩ := ow.opn
  have hxl := ow.len
  have hwb : Hp g (blk b e cs :: M) w := ⟨hw'.g, k1, k2, dj, s1, s2, hb, l⟩
  have hld := firstCells_rc (P := P) (q := q) hr hw.s (Nat.min_le_left m dl)
  have hnl : (ys.take (min m dl * sz)).length = min m dl * sz := by
    rw [List.length_take, hr.1]
    exact Nat.min_eq_left (Nat.mul_le_mul_right _ (Nat.min_le_left m dl))
  have hkn : (k + min m dl) * sz ≤ n * sz := Nat.mul_le_mul_right _ hk
  have hnc : n * sz ≤ c * sz := Nat.mul_le_mul_right _ ow.le
  have hst : ∃ w', (storeCells ⟨b, o, none⟩ (ys.take (min m dl * sz))).run P w = .ok () w' ∧ Hp g (own e sz (some ⟨b, 0, none⟩) n c (xs.take (k * sz) ++ ys.take (min m dl * sz) ++ xs.drop ((k + min m dl) * sz)) :: M) w' := by
    rcases Nat.eq_zero_or_pos (min m dl) with h0 | h0
    · refine ⟨w, ?_, ?_⟩
      · rw [h0]; simp [storeCells]
      · rw [h0]; simpa using hw'
    · have eo := ho h0
      rw [Nat.add_mul] at hkn
      obtain ⟨w', e2, h2⟩ := storeCells_run (P := P) (ys.take (min m dl * sz)) o 0 cs w (one_of_oneC h1) (by rw [hnl, hcl, eo]; omega) hwb
      refine ⟨w', e2, ?_⟩
      rw [Nat.add_zero] at h2
      have hfit : o + (ys.take (min m dl * sz)).length ≤ cs.length := by rw [hnl, hcl, eo]; omega
      have hl2 : (setN cs o (ys.take (min m dl * sz))).length = c * sz := by rw [setN_length, hcl]
      obtain ⟨j1, j2, d2, t1, t2, hb2, l2⟩ := h2.s
      have hcl2 := own.cls (sz := sz) hb2 hl2 ow.le ow.cap
      refine ⟨h2.g, j1, j2, d2, t1, t2, ?_, l2⟩
      have : (setN cs o (ys.take (min m dl * sz))).take (n * sz) = xs.take (k * sz) ++ ys.take (min m dl * sz) ++ xs.drop ((k + min m dl) * sz) := by
        have h9 := splice_take cs (ys.take (min m dl * sz)) (k * sz) (n * sz) (by rw [hnl]; omega) (by omega)
        rw [hnl] at h9
        rw [setN_eq _ _ _ hfit, hnl, eo, h9, htk, Nat.add_mul]
      rw [this] at hcl2
      exact hcl2
  obtain ⟨w', e2, hw2⟩ := hst
  have hrun : (Builtin.copy_ #[T, T'] ty #[.slice (some ⟨b, o, none⟩) dl dc, .slice B m q]).run P w = .ok (.int .i64 (min m dl : Nat)) w' := by
    have hmin : Nat.min m dl = min m dl := rfl
    simp [Builtin.copy_, run_underlying hu, Builtin.lenOf, sizeOf, typeInfo, hi, hsz, hmin, hld, e2, goInt]
  unfold Oper.wp
  simp only [execOp, resolve, List.map_toArray, List.map_cons, List.map_nil, hs.eval hx, hs.eval hy]
  simp only [Sem.run_bind, Sem.run_pure, Result.andThen_ok, invoke, builtin, hrun]
  exact hK _ _ _ ⟨rfl, rfl⟩ hw2
/-- append, onto the first elements of a slice of the call's own, where there is room. -/
theorem eff_appendR {e sz by_ b i n c m q : Nat} {B : Option Addr} {xs ys : List Value} [H : SliceT P T (e, sz, by_)] (hx : ev σ x = some (.slice (some ⟨b, 0, none⟩) i c)) (hy : ev σ y = some (.slice B m q))
    (hp : Pick (own e sz (some ⟨b, 0, none⟩) n c xs) L M) (hr : Rc L sz B m ys) (h1 : ∀ u ∈ ys, u.oneCell' = true) (hin : i ≤ n) (hroom : i + m ≤ c) :
    Eff P g L σ ⟨d, .call ⟨.builtin .append, #[x, y], #[T, T]⟩, ty, pos, aft, gd⟩ fun r L' => r = .slice (some ⟨b, 0, none⟩) (i + m) c ∧ L' = own e sz (some ⟨b, 0, none⟩) (i + m) c (xs.take (i * sz) ++ ys) :: M := fun a w hs hw K Q hK => by
  obtain ⟨hu, i', hi, hsz, _⟩ := H.spec
  have hw' : Hp g (own e sz (some ⟨b, 0, none⟩) n c xs :: M) w := hw.mono fun _ => sat.perm hp.perm
  obtain ⟨k1, k2, dj, s1, s2, ow, l⟩ := hw'.s
  obtain ⟨cs, hb, hcl, htk⟩ := ow.opn
  have hwb : Hp g (blk b e cs :: M) w := ⟨hw'.g, k1, k2, dj, s1, s2, hb, l⟩
  have hld := firstCells_rc (P := P) (q := q) hr hw.s (Nat.le_refl m)
  rw [← hr.1, List.take_length] at hld
  have hfit : i * sz + ys.length ≤ cs.length := by rw [hr.1, hcl, ← Nat.add_mul]; exact Nat.mul_le_mul_right _ hroom
  obtain ⟨w', e2, h2⟩ := storeCells_run (P := P) ys (i * sz) 0 cs w (one_of_oneC h1) (by omega) hwb
  rw [Nat.add_zero] at h2
  have hl2 : (setN cs (i * sz) ys).length = c * sz := by rw [setN_length, hcl]
  obtain ⟨j1, j2, d2, t1, t2, hb2, l2⟩ := h2.s
  have hcl2 := own.cls (sz := sz) (n := i + m) hb2 hl2 hroom ow.cap
  have hin2 : i * sz ≤ n * sz := Nat.mul_le_mul_right _ hin
  have : (setN cs (i * sz) ys).take ((i + m) * sz) = xs.take (i * sz) ++ ys := by
    rw [setN_eq _ _ _ hfit, ← htk, List.take_take, Nat.min_eq_left hin2, Nat.add_mul, ← hr.1]
    have hl3 : (cs.take (i * sz) ++ ys).length = i * sz + ys.length := by
      rw [List.length_append, List.length_take]; omega
    rw [← hl3]
    exact List.take_left
  rw [this] at hcl2
  have hrun : (Builtin.append_ #[T, T] ty #[.slice (some ⟨b, 0, none⟩) i c, .slice B m q]).run P w = .ok (.slice (some ⟨b, 0, none⟩) (i + m) c) w' := by
    simp [Builtin.append_, run_underlying hu, sizeOf, typeInfo, hi, hsz, Builtin.lenOf, hroom, hld, Addr.add_lit, e2]
  unfold Oper.wp
  simp only [execOp, resolve, List.map_toArray, List.map_cons, List.map_nil, hs.eval hx, hs.eval hy]
  simp only [Sem.run_bind, Sem.run_pure, Result.andThen_ok, invoke, builtin, hrun]
  exact hK _ _ _ ⟨rfl, rfl⟩ ⟨h2.g, j1, j2, d2, t1, t2, hcl2, l2⟩
/-- l[i:j:k], of a slice that is there. -/
theorem ev_slice3 {e : TypeId} {sz by_ : Nat} {b o : Nat} {n c : Nat} {l h m : Nat} {q1 q2 q3 : Operand} {k1 k2 k3 : IntKind} [H : SliceT P T (e, sz, by_)] (hx : ev σ x = some (.slice (some ⟨b, o, none⟩) n c)) (hl : ev σ q1 = some (.int k1 l)) (hh : ev σ q2 = some (.int k2 h)) (hm : ev σ q3 = some (.int k3 m)) (h1 : l ≤ h) (h2 : h ≤ m) (h3 : m ≤ c) :
    Ev P L σ ⟨d, .slice T x (some q1) (some q2) (some q3), ty, pos, aft, gd⟩ (.slice (some ⟨b, (if m = l then o else o + l * sz), none⟩) (h - l) (m - l)) := fun a w hs _ => by
  obtain ⟨hu, ii, hi', hsz, _⟩ := H.spec
  have sb : ∀ (k : IntKind) (i y : Nat) (code : BoundsCode), i ≤ y → (Instr.sliceBound (.int k i) y code).run P w = .ok i w := fun k i y code hi => by
    rw [run_sliceBound (P := P) w k i y code (by omega) (by omega)]; simp
  simp only [execOp, hs.eval hx]
  have e4 : (sizeOf e).run P w = .ok sz w := by simp [sizeOf, typeInfo, hi', hsz]
  simp only [Instr.sliceAt, Instr.slice, Instr.sliceBounds, Sem.run_bind, run_underlying hu, Result.andThen_ok, e4, Option.map_some, hs.eval hl, hs.eval hh, hs.eval hm, sb _ _ _ _ h1, sb _ _ _ _ h2, sb _ _ _ _ h3, Sem.run_pure, Option.isSome]
  congr 3
  by_cases hml : m = l
  · simp [hml]
  · simp [hml, Addr.add_lit]
/-- clear, of what lies behind the elements of a slice of the call's own. -/
theorem eff_clear {e sz by_ b o k n c m q : Nat} {xs zs : List Value} [H : SliceT P T (e, sz, by_)] [HZ : ZeroT P e zs] (hz : (zs.all fun u => u.oneCell') = true) (hzl : Nat.beq zs.length sz = true) (hx : ev σ x = some (.slice (some ⟨b, o, none⟩) m q))
    (hp : Pick (own e sz (some ⟨b, 0, none⟩) n c xs) L M) (ho : 0 < m → o = k * sz) (hk : n ≤ k) (hkc : k + m ≤ c) :
    Eff P g L σ ⟨d, .call ⟨.builtin .clear, #[x], #[T]⟩, ty, pos, aft, gd⟩ fun r L' => r = .tuple #[] ∧ L' = own e sz (some ⟨b, 0, none⟩) n c xs :: M := fun a w hs hw K Q hK => by
  obtain ⟨hu, i, hi, hsz, _⟩ := H.spec
  have hw' : Hp g (own e sz (some ⟨b, 0, none⟩) n c xs :: M) w := hw.mono fun _ => sat.perm hp.perm
  unfold Oper.wp
  simp only [execOp, resolve, List.map_toArray, List.map_cons, List.map_nil, hs.eval hx]
  rcases Nat.eq_zero_or_pos m with h0 | h0
  · subst h0
    have hrun : (Builtin.clear_ #[T] ty #[.slice (some ⟨b, o, none⟩) 0 q]).run P w = .ok (.tuple #[]) w := by
      simp [Builtin.clear_, run_underlying hu]
    simp only [Sem.run_bind, Sem.run_pure, Result.andThen_ok, invoke, builtin, hrun]
    exact hK _ _ _ ⟨rfl, rfl⟩ hw'
  · obtain ⟨k1, k2, dj, s1, s2, ow, l⟩ := hw'.s
    obtain ⟨cs, hb, hcl, htk⟩ := ow.opn
    have hwb : Hp g (blk b e cs :: M) w := ⟨hw'.g, k1, k2, dj, s1, s2, hb, l⟩
    obtain ⟨zv, hz1, hz2⟩ := HZ.run w
    have hzl' := Nat.eq_of_beq_eq_true hzl
    have eo := ho h0
    have hzone : ∀ u ∈ zs, u.oneCell' = true := one_all hz
    have hlen : (Builtin.zeroCells zs.toArray m).toList.length = m * sz := by simp only [Builtin.zeroCells, Array.length_toList, Array.size_map, Array.size_range, List.size_toArray, hzl']
    have hzc : ∀ u ∈ (Builtin.zeroCells zs.toArray m).toList, u.oneCell' = true := by
      intro u hu
      simp only [Builtin.zeroCells, Array.toList_map, List.mem_map] at hu
      obtain ⟨j, hj, rfl⟩ := hu
      have hp0 : 0 < zs.length := by
        rcases Nat.eq_zero_or_pos zs.length with h9 | h9
        · simp [h9] at hj
        · exact h9
      have hjm : j % zs.toArray.size < zs.length := by simpa using Nat.mod_lt j hp0
      have e9 : zs.toArray[j % zs.toArray.size]! = zs[j % zs.toArray.size] := by
        have hjm2 : j % zs.length < zs.length := hjm
        simp [hjm2]
      rw [e9]
      exact hzone _ (List.getElem_mem _)
    have h9 : k * sz + m * sz ≤ c * sz := by rw [← Nat.add_mul]; exact Nat.mul_le_mul_right _ hkc
    have hnk : n * sz ≤ k * sz := Nat.mul_le_mul_right _ hk
    obtain ⟨w', e2, h2⟩ := storeCells_run (P := P) (Builtin.zeroCells zs.toArray m).toList o 0 cs w (one_of_oneC hzc) (by rw [hlen, hcl, eo]; omega) hwb
    rw [Nat.add_zero] at h2
    have hl2 : (setN cs o (Builtin.zeroCells zs.toArray m).toList).length = c * sz := by rw [setN_length, hcl]
    obtain ⟨j1, j2, d2, t1, t2, hb2, l2⟩ := h2.s
    have hcl2 := own.cls (sz := sz) (n := n) hb2 hl2 ow.le ow.cap
    have e8 : (setN cs o (Builtin.zeroCells zs.toArray m).toList).take (n * sz) = xs := by
      rw [setN_eq _ _ _ (by rw [hlen, hcl, eo]; omega), eo, ← htk, List.append_assoc, List.take_append, List.take_take, Nat.min_eq_left hnk, List.length_take, hcl]
      rw [show n * sz - min (k * sz) (c * sz) = 0 by omega]
      simp
    rw [e8] at hcl2
    have hrun : (Builtin.clear_ #[T] ty #[.slice (some ⟨b, o, none⟩) m q]).run P w = .ok (.tuple #[]) w' := by
      have hm0 : m ≠ 0 := by omega
      obtain ⟨m', rfl⟩ : ∃ m', m = m' + 1 := ⟨m - 1, by omega⟩
      simp only [Builtin.clear_, Sem.run_bind, run_underlying hu, Result.andThen_ok, hz1, hz2, e2, Sem.run_pure, List.getElem?_toArray, List.getElem?_cons_zero]
    simp only [Sem.run_bind, Sem.run_pure, Result.andThen_ok, invoke, builtin, hrun]
    exact hK _ _ _ ⟨rfl, rfl⟩ ⟨h2.g, j1, j2, d2, t1, t2, hcl2, l2⟩
end
section
variable {P : Program}
theorem run_append_grow_zeros (w : World) (t tn ty e : TypeId) (i : TypeInfo) (z : Value) (k kn : IntKind) (ht : P.underlying t = some (.slice e)) (htn : P.underlying tn = some (.int kn)) (hi : P.info? e = some i) (hz : i.zero = some z)
    (b : Addr) (sLen sCap : Nat) (olds : List Value) (hlo : olds.length = sLen * i.size) (holds : ∀ j v, olds[j]? = some v → w.cell? (b.add j) = some v)
    (n : Nat) (h0 : 0 < n) (hs : 0 < i.size) (hg : sCap < sLen + n) (h63 : ((sLen + n : Nat) : Int) ≤ 9223372036854775807) (hfit : Builtin.nextslicecap (sLen + n) sCap * i.bytes ≤ 281474976710656) (h48n : n * i.bytes ≤ 281474976710656) :
    (Builtin.append_ #[t, tn] ty #[.slice (some b) sLen sCap, .int k n]).run P w =
      .ok (.slice (some ⟨w.heap.size, 0, none⟩) (sLen + n) (grownCap w (sLen + n) sCap e)) (w.drew.alloc (.cells (olds.toArray ++ Builtin.zeroCells z.cells n ++ Builtin.zeroCells z.cells (grownCap w (sLen + n) sCap e - (sLen + n))) e)) := by
  have hn : ¬ (sLen + n ≤ sCap) := by omega
  have hw : IntKind.i64.wrap (n : Int) = n := by rw [IntKind.wrap_i64]; omega
  have h63' : ¬ (9223372036854775807 < ((sLen : Int) + (n : Int))) := by omega
  have h48' : ¬ (281474976710656 < Builtin.nextslicecap (sLen + n) sCap * i.bytes) := by omega
  have h48i : ¬ (281474976710656 < (n : Int) * (i.bytes : Int)) := by
    rw [← Int.natCast_mul]
    omega
  have hneg : ¬ ((n : Int) < 0) := by omega
  have hns : ¬ (n * i.size = 0) := Nat.mul_ne_zero (by omega) (by omega)
  have hfo := run_firstCells_some (P := P) w.drew i.size sLen b sLen sCap olds hlo (by simpa using holds)
  simp [Builtin.append_, run_underlying ht, run_underlying htn, sizeOf, typeInfo, zeroValue, hi, hz, asInt, asIntOf, hw, hn, hneg, hns, h63', h48', h48i, Question.forced, hfo, newRow, grownCap]
end
section
variable {P : Program} {g : Glob} {L M : List HP} {σ : Env} {d : Option Nat} {ty T T' : TypeId} {pos : String} {aft : Array Edge} {gd : Option (Nat × Bool)} {x y z : Operand} {v u : Value}
/-- A type of whole numbers. -/
def intB (P : Program) (T : TypeId) : Bool := match P.underlying T with
  | some (.int _) => true
  | _ => false
class IntT (P : Program) (T : TypeId) : Prop where
  h : intB P T = true
theorem IntT.spec (H : IntT P T) : ∃ k, P.underlying T = some (.int k) := by
  have h := H.h
  unfold intB at h
  split at h
  · exact ⟨_, by assumption⟩
  · cases h
/-- append of zeros, onto the first elements of a slice of the call's own, where there is no room: elsewhere. -/
theorem eff_appendZ {e sz by_ b i n c k : Nat} {kd : IntKind} {xs zs : List Value} [H : SliceT P T (e, sz, by_)] [HZ : ZeroT P e zs] [HI : IntT P T'] (hzl : Nat.beq zs.length sz = true) (h0 : 0 < sz) (hx : ev σ x = some (.slice (some ⟨b, 0, none⟩) i c)) (hy : ev σ y = some (.int kd (k : Int)))
    (hp : Pick (own e sz (some ⟨b, 0, none⟩) n c xs) L M) (hin : i ≤ n) (hk : 0 < k) (hroom : c < i + k) (hb : (i + k) * by_ ≤ 140737488355328) (hm : i + k ≤ 140737488355328) :
    Eff P g L σ ⟨d, .call ⟨.builtin .append, #[x, y], #[T, T']⟩, ty, pos, aft, gd⟩ fun r L' => ∃ b' c' us, r = .slice (some ⟨b', 0, none⟩) (i + k) c' ∧ us.length = k * sz ∧ i + k ≤ c' ∧ c' ≤ maxLen ∧ L' = own e sz (some ⟨b', 0, none⟩) (i + k) c' (xs.take (i * sz) ++ us) :: L := fun a w hs hw K Q hK => by
  obtain ⟨ti, zv, hu, hi, hsz, hby, hiz, hzv⟩ := H.zero HZ
  have hzs := Nat.eq_of_beq_eq_true hzl
  obtain ⟨kn, hkn⟩ := HI.spec
  have hw' : Hp g (own e sz (some ⟨b, 0, none⟩) n c xs :: M) w := hw.mono fun _ => sat.perm hp.perm
  obtain ⟨k1, k2, dj, s1, s2, ow, l⟩ := hw'.s
  have hlt : (xs.take (i * sz)).length = i * sz := (ow.less hin).len
  have holds : ∀ j v, (xs.take (i * sz))[j]? = some v → w.cell? ((⟨b, 0, none⟩ : Addr).add j) = some v := fun j v hj => by
    rw [Addr.add_lit, Nat.zero_add]
    rw [List.getElem?_take] at hj
    split at hj
    · exact (Ld.own hj).1 _ hw'.s
    · cases hj
  have hrun := run_append_grow_zeros (P := P) w T T' ty e ti zv kd kn hu hkn hi hiz ⟨b, 0, none⟩ i c (xs.take (i * sz)) (by rw [hsz]; exact hlt) holds k hk (by omega) hroom (by omega) (growslice_fits (by omega) (by rw [hby]; exact hb)) (by
    rw [hby]
    have : k * by_ ≤ (i + k) * by_ := Nat.mul_le_mul_right _ (by omega)
    omega)
  unfold Oper.wp
  simp only [execOp, resolve, List.map_toArray, List.map_cons, List.map_nil, hs.eval hx, hs.eval hy]
  simp only [Sem.run_bind, Sem.run_pure, Result.andThen_ok, invoke, builtin, hrun]
  have hge := grownCap_ge w (i + k) c e
  have hcm : grownCap w (i + k) c e ≤ maxLen := grownCap_le_maxLen w (i + k) c e (by simp only [maxLen]; omega)
  have hal := (hw.drew).alloc e (xs.take (i * sz) ++ ((Builtin.zeroCells zv.cells k).toList ++ (Builtin.zeroCells zv.cells (grownCap w (i + k) c e - (i + k))).toList))
  have e1 : (xs.take (i * sz) ++ ((Builtin.zeroCells zv.cells k).toList ++ (Builtin.zeroCells zv.cells (grownCap w (i + k) c e - (i + k))).toList)).toArray = (xs.take (i * sz)).toArray ++ Builtin.zeroCells zv.cells k ++ Builtin.zeroCells zv.cells (grownCap w (i + k) c e - (i + k)) := by
    apply Array.ext'
    simp
  rw [e1] at hal
  have hus : (Builtin.zeroCells zv.cells k).toList.length = k * sz := by simp [Builtin.zeroCells, hzv, hzs]
  have hpad : (Builtin.zeroCells zv.cells (grownCap w (i + k) c e - (i + k))).toList.length = (grownCap w (i + k) c e - (i + k)) * sz := by simp [Builtin.zeroCells, hzv, hzs]
  refine hK _ _ _ ⟨w.heap.size, grownCap w (i + k) c e, (Builtin.zeroCells zv.cells k).toList, rfl, hus, hge, hcm, rfl⟩ ?_
  obtain ⟨j1, j2, d2, t1, t2, hb2, l2⟩ := hal.s
  refine ⟨hal.g, j1, j2, d2, t1, t2, ?_, l2⟩
  have hlen : (xs.take (i * sz) ++ ((Builtin.zeroCells zv.cells k).toList ++ (Builtin.zeroCells zv.cells (grownCap w (i + k) c e - (i + k))).toList)).length = grownCap w (i + k) c e * sz := by
    rw [List.length_append, List.length_append, hlt, hus, hpad, ← Nat.add_mul, ← Nat.add_mul]
    congr 1
    omega
  have h9 := own.cls (sz := sz) (n := i + k) hb2 hlen hge hcm
  have e9 : (xs.take (i * sz) ++ ((Builtin.zeroCells zv.cells k).toList ++ (Builtin.zeroCells zv.cells (grownCap w (i + k) c e - (i + k))).toList)).take ((i + k) * sz) = xs.take (i * sz) ++ (Builtin.zeroCells zv.cells k).toList := by
    rw [← List.append_assoc]
    have : (i + k) * sz = (xs.take (i * sz) ++ (Builtin.zeroCells zv.cells k).toList).length := by rw [List.length_append, hlt, hus, Nat.add_mul]
    rw [this]
    exact List.take_left
  rw [e9] at h9
  exact h9
theorem eqGuard_slice (op : BinOp) (p q : Option Addr) (n c m k : Nat) (w : World) : (eqGuard op T x y (.slice p n c) (.slice q m k)).run P w = .ok () w := by
  unfold eqGuard
  split <;> rfl
theorem equal_nilS {r : TypeId × Nat × Nat} (H : SliceT P T r) (p : Option Addr) (n c m k : Nat) (w : World) : (Op.equal T (.slice p n c) (.slice none m k)).run P w = .ok p.isNone w := by
  obtain ⟨e, s, by_⟩ := r
  obtain ⟨he, _⟩ := H.spec
  unfold Op.equal
  rw [show Op.maxDepth = 9999 + 1 from rfl]
  unfold Op.equalIn
  cases p <;> simp only [Sem.run_bind, run_underlying he, Result.andThen_ok] <;> rfl
theorem ev_eqlNilS {p : Option Addr} {n c m k : Nat} {r : TypeId × Nat × Nat} [H : SliceT P T r] (hx : ev σ x = some (.slice p n c)) (hy : ev σ y = some (.slice none m k)) : Ev P L σ ⟨d, .binOp .eql T x y T', ty, pos, aft, gd⟩ (.bool p.isNone) :=
  bin_run' _ _ _ _ (eqGuard_slice _ _ _ _ _ _ _) hx hy fun w => by
    show ((do pure (.bool (← Op.equal T (.slice p n c) (.slice none m k))) : Sem Value)).run P w = _
    simp only [Sem.run_bind, equal_nilS H, Result.andThen_ok, Sem.run_pure]
theorem ev_neqNilS {p : Option Addr} {n c m k : Nat} {r : TypeId × Nat × Nat} [H : SliceT P T r] (hx : ev σ x = some (.slice p n c)) (hy : ev σ y = some (.slice none m k)) : Ev P L σ ⟨d, .binOp .neq T x y T', ty, pos, aft, gd⟩ (.bool p.isSome) :=
  bin_run' _ _ _ _ (eqGuard_slice _ _ _ _ _ _ _) hx hy fun w => by
    show ((do pure (.bool (!(← Op.equal T (.slice p n c) (.slice none m k)))) : Sem Value)).run P w = _
    simp only [Sem.run_bind, equal_nilS H, Result.andThen_ok, Sem.run_pure]
    cases p <;> rfl
/-- The library's look at whether two slices share memory. -/
class OvT (P : Program) (f : FuncId) (T : outParam TypeId) : Prop where
  h : ∃ fn R, P.funcs[f]? = some fn ∧ (fn.name == "runtime.NumGoroutine") = false ∧ fn.body.isNone = true ∧ Extern.findNext fn = none ∧ Extern.find fn = some (Extern.SlicesOverlaps.overlaps #[T, T] #[R])
theorem shape_of {w : World} {b : Nat} {T : TypeId} {cs : Array Value} (h : w.hm b = some (.cells cs T (0, 0))) : w.shape? b = some (T, cs.size) := by
  have h' : w.heap[b]? = some (.cells cs T (0, 0)) := h
  simp [World.shape?, h']
theorem frozen_of {w : World} {b i : Nat} {T : TypeId} {cs : Array Value} (h : w.hm b = some (.cells cs T (0, 0))) : w.frozen? ⟨b, i, none⟩ = false := by
  have h' : w.heap[b]? = some (.cells cs T (0, 0)) := h
  simp [World.frozen?, h']
theorem ev_overlaps {f : FuncId} {e sz by_ b1 o1 n1 c1 b2 o2 n2 c2 n c : Nat} {T1 : TypeId} {cs1 xs : List Value} {ts : Array TypeId} {M1 M2 : List HP} [HO : OvT P f T] [H : SliceT P T (e, sz, by_)] (hx : ev σ x = some (.slice (some ⟨b1, o1, none⟩) n1 c1)) (hy : ev σ y = some (.slice (some ⟨b2, o2, none⟩) n2 c2))
    (hp1 : Pick (blk b1 T1 cs1) L M1) (hp2 : Pick (own e sz (some ⟨b2, 0, none⟩) n c xs) M1 M2) (hc : 0 < c) (h0 : 0 < sz) :
    Ev P L σ ⟨d, .call ⟨.value (.func f), #[x, y], ts⟩, ty, pos, aft, gd⟩ (.bool false) := fun a w hs hw => by
  obtain ⟨fn, R, q1, q2, q3, q4, q5⟩ := HO.h
  obtain ⟨hu, ti, hi, hsz, _⟩ := H.spec
  obtain ⟨k1, k2, dj, s1, s2, hb, l⟩ := hw.perm hp1.perm
  obtain ⟨j1, j2, dj2, t1, t2, ow, l2⟩ := l.perm hp2.perm
  rcases ow.arr with ⟨e1, _⟩ | ⟨b', cur, e1, e2, e3, e4⟩
  · cases e1
  simp only [Option.some.injEq, Addr.mk.injEq, and_true] at e1
  subst e1
  have h1 : w.hm b1 = some (.cells cs1.toArray T1 (0, 0)) := s1 _ _ hb.eq
  have h2 : w.hm b2 = some (.cells cur e (0, 0)) := s2 _ _ (t1 _ _ e2)
  have hne : b1 ≠ b2 := fun h9 => by
    subst h9
    rcases dj b1 with h8 | h8
    · rw [hb.eq] at h8; cases h8
    · rw [t1 _ _ e2] at h8; cases h8
  have hcur : cur.size ≠ 0 := by
    rw [e3]
    exact Nat.ne_of_gt (Nat.mul_pos hc h0)
  have hrun : (callFunc f #[.slice (some ⟨b1, o1, none⟩) n1 c1, .slice (some ⟨b2, o2, none⟩) n2 c2]).run P w = .ok (.value (.bool false)) w := by
    rw [run_callFunc_extern q1 q2 q3 q4 q5, Lib.run_overlaps_apart w T R e hu sz (fun w => by simp [sizeOf, typeInfo, hi, hsz]) ⟨b1, o1, none⟩ ⟨b2, o2, none⟩ n1 c1 n2 c2 hne T1 e cs1.toArray.size cur.size (shape_of h1) (shape_of h2) hcur (frozen_of h1) (frozen_of h1)]
    rfl
  show (callFunc f (#[] ++ (#[x, y] : Array Operand).map a.eval ++ #[])).run P w = _
  simp only [List.map_toArray, List.map_cons, List.map_nil, hs.eval hx, hs.eval hy]
  simpa using hrun
theorem ev_cap {p : Option Addr} {n c : Nat} {r : TypeId × Nat × Nat} [H : SliceT P T r] (hx : ev σ x = some (.slice p n c)) : Ev P L σ ⟨d, .call ⟨.builtin .cap, #[x], #[T]⟩, ty, pos, aft, gd⟩ (.int .i64 c) := fun a w hs _ => by
  obtain ⟨e, s, b⟩ := r
  obtain ⟨hu, _⟩ := H.spec
  simp [execOp, resolve, invoke, builtin, hs.eval hx, run_underlying hu, Builtin.cap_, goInt]
/-- append of zeros, onto nothing. -/
theorem eff_appendZ0 {e sz by_ k : Nat} {kd : IntKind} {zs : List Value} [H : SliceT P T (e, sz, by_)] [HZ : ZeroT P e zs] [HI : IntT P T'] (hzl : Nat.beq zs.length sz = true) (h0 : 0 < sz) (hx : ev σ x = some (.slice none 0 0)) (hy : ev σ y = some (.int kd (k : Int)))
    (hk : 0 < k) (hb : k * by_ ≤ 140737488355328) (hm : k ≤ 140737488355328) :
    Eff P g L σ ⟨d, .call ⟨.builtin .append, #[x, y], #[T, T']⟩, ty, pos, aft, gd⟩ fun r L' => ∃ b' c' us, r = .slice (some ⟨b', 0, none⟩) k c' ∧ us.length = k * sz ∧ k ≤ c' ∧ c' ≤ maxLen ∧ L' = own e sz (some ⟨b', 0, none⟩) k c' us :: L := fun a w hs hw K Q hK => by
  obtain ⟨ti, zv, hu, hi, hsz, hby, hiz, hzv⟩ := H.zero HZ
  have hzs := Nat.eq_of_beq_eq_true hzl
  obtain ⟨kn, hkn⟩ := HI.spec
  have hrun := Lib.run_append_nil_zeros (P := P) w T T' ty e ti zv kd kn hu hkn hi hiz k hk (by omega) (by omega) (by rw [hby]; omega)
  unfold Oper.wp
  simp only [execOp, resolve, List.map_toArray, List.map_cons, List.map_nil, hs.eval hx, hs.eval hy]
  simp only [Sem.run_bind, Sem.run_pure, Result.andThen_ok, invoke, builtin, hrun]
  have hge := grownCap_ge w k 0 e
  have hcm : grownCap w k 0 e ≤ maxLen := grownCap_le_maxLen w k 0 e (by simp only [maxLen]; omega)
  have hal := (hw.drew).alloc e ((Builtin.zeroCells zv.cells k).toList ++ (Builtin.zeroCells zv.cells (grownCap w k 0 e - k)).toList)
  have e1 : ((Builtin.zeroCells zv.cells k).toList ++ (Builtin.zeroCells zv.cells (grownCap w k 0 e - k)).toList).toArray = Builtin.zeroCells zv.cells k ++ Builtin.zeroCells zv.cells (grownCap w k 0 e - k) := by
    apply Array.ext'
    simp
  rw [e1] at hal
  have hus : (Builtin.zeroCells zv.cells k).toList.length = k * sz := by simp [Builtin.zeroCells, hzv, hzs]
  have hpad : (Builtin.zeroCells zv.cells (grownCap w k 0 e - k)).toList.length = (grownCap w k 0 e - k) * sz := by simp [Builtin.zeroCells, hzv, hzs]
  refine hK _ _ _ ⟨w.heap.size, grownCap w k 0 e, (Builtin.zeroCells zv.cells k).toList, rfl, hus, hge, hcm, rfl⟩ ?_
  obtain ⟨j1, j2, d2, t1, t2, hb2, l2⟩ := hal.s
  refine ⟨hal.g, j1, j2, d2, t1, t2, ?_, l2⟩
  have hlen : ((Builtin.zeroCells zv.cells k).toList ++ (Builtin.zeroCells zv.cells (grownCap w k 0 e - k)).toList).length = grownCap w k 0 e * sz := by
    rw [List.length_append, hus, hpad, ← Nat.add_mul]
    congr 1
    omega
  have h9 := own.cls (sz := sz) (n := k) hb2 hlen hge hcm
  rw [← hus, List.take_left] at h9
  exact h9
end
end Go.Proofs.Ytmgkmammkmlakaa
