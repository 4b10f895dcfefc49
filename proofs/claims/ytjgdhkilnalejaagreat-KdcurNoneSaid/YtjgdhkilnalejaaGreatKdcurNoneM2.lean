/- Texts of the law KdcurNone, one behind the other. -/
import Derived.Test.YtjgdhkilnalejaaGreatKdcurNoneM1
import Derived.Laws.MakeOwn
import Derived.ChangeKeysEq
/- The references' sets of points: the walks (out of the texts on pst, by tools/mkps.sh). -/
namespace Go.Proofs.YtjgdhkilnalejaaGreat
attribute [local irreducible] sat
set_option linter.unusedVariables false
set_option linter.unusedSimpArgs false
set_option maxRecDepth 100000

theorem kid_id_ctr (n : Int) (L : List HP) : Ctr Tryz.prog 67 #[.int .i64 n] L fun v L' => v = .bool (goodId n) ∧ L' = L := by
  refine Ctr_of (fn := Tryz.f67) (n := 9) Tryz.func67 rfl rfl rfl ?_
  intro g F
  (repeat first | refine G_seq ?_ | refine G_skip ?_ | refine G_endblk ?_ | refine G_block ?_ | refine G_exit rfl ?_)
  refine G_region ?_
  refine GO_q rfl rfl (ev_assign rfl) ?_
  refine GO_nil ?_
  (repeat first | refine G_seq ?_ | refine G_skip ?_ | refine G_endblk ?_ | refine G_block ?_ | refine G_exit rfl ?_)
  refine G_region ?_
  refine GO_q rfl rfl (ev_move rfl) ?_
  refine GO_q rfl rfl (ev_geq rfl rfl) ?_
  refine GO_q rfl rfl (ev_move rfl) ?_
  refine GO_guard rfl rfl rfl (fun hc17 => ?y17) (fun hc17 => ?n17)
  case' n17 =>
    have hd17 := hc17
    try simp only [decide_eq_true_eq, decide_eq_false_iff_not, Bool.not_true, Bool.not_false, Bool.not_eq_true', Bool.not_eq_false'] at hd17
    refine GO_no rfl rfl rfl hc17 ?_
    refine GO_q rfl rfl (ev_pick_f rfl hc17 rfl) ?_
    refine GO_q rfl rfl (ev_assign rfl) ?_
    refine GO_nil ?_
    (repeat first | refine G_seq ?_ | refine G_skip ?_ | refine G_endblk ?_ | refine G_block ?_ | refine G_exit rfl ?_)
    refine G_ret rfl (.tmp rfl .nil) (by (repeat first | exact fun _ s => s | apply en_keep | apply en_drop | apply en_app) <;> fail) ⟨by simp_all [retv, goodId] <;> (intros; omega), rfl⟩
  case' y17 =>
    have hd17 := hc17
    try simp only [decide_eq_true_eq, decide_eq_false_iff_not, Bool.not_true, Bool.not_false, Bool.not_eq_true', Bool.not_eq_false'] at hd17
    refine GO_q rfl rfl (ev_move rfl) ?_
    refine GO_yes rfl rfl rfl hc17 ?_
    refine GO_q rfl rfl (ev_leq rfl rfl) ?_
    refine GO_q rfl rfl (ev_pick_t rfl hc17 rfl) ?_
    refine GO_q rfl rfl (ev_assign rfl) ?_
    refine GO_nil ?_
    (repeat first | refine G_seq ?_ | refine G_skip ?_ | refine G_endblk ?_ | refine G_block ?_ | refine G_exit rfl ?_)
    refine G_ret rfl (.tmp rfl .nil) (by (repeat first | exact fun _ s => s | apply en_keep | apply en_drop | apply en_app) <;> fail) ⟨by simp_all [retv, goodId] <;> (intros; omega), rfl⟩
theorem lies_ctr (p : Pt) (L : List HP) : Ctr Tryz.prog 68 #[p.v] L fun v L' => v = .bool (good p.x && good p.y) ∧ L' = L := by
  refine Ctr_of (fn := Tryz.f68) (n := 11) Tryz.func68 rfl rfl rfl ?_
  intro g F
  (repeat first | refine G_seq ?_ | refine G_skip ?_ | refine G_endblk ?_ | refine G_block ?_ | refine G_exit rfl ?_)
  refine G_region ?_
  refine GO_eff rfl rfl (eff_box rfl) ?_; rintro _ _ ⟨b1, rfl, rfl⟩
  refine GO_q rfl rfl (ev_assign rfl) ?_
  refine GO_nil ?_
  (repeat first | refine G_seq ?_ | refine G_skip ?_ | refine G_endblk ?_ | refine G_block ?_ | refine G_exit rfl ?_)
  refine G_region ?_
  refine GO_q rfl rfl (ev_fieldAddr rfl) ?_
  refine GO_q rfl rfl (ev_load rfl (by repeat' first | exact Ld.blk rfl | assumption | apply Ld.skip | apply Ld.app)) ?_
  refine GO_eff rfl rfl (eff_call rfl (Good_ctr _ _)) ?_; rintro _ _ ⟨rfl, rfl⟩
  refine GO_q rfl rfl (ev_move rfl) ?_
  refine GO_guard rfl rfl rfl (fun hc27 => ?y27) (fun hc27 => ?n27)
  case' n27 =>
    have hd27 := hc27
    try simp only [decide_eq_true_eq, decide_eq_false_iff_not, Bool.not_true, Bool.not_false, Bool.not_eq_true', Bool.not_eq_false'] at hd27
    refine GO_no rfl rfl rfl hc27 ?_
    refine GO_no rfl rfl rfl hc27 ?_
    refine GO_q rfl rfl (ev_pick_f rfl hc27 rfl) ?_
    refine GO_q rfl rfl (ev_assign rfl) ?_
    refine GO_nil ?_
    (repeat first | refine G_seq ?_ | refine G_skip ?_ | refine G_endblk ?_ | refine G_block ?_ | refine G_exit rfl ?_)
    refine G_ret rfl (.tmp rfl .nil) (by (repeat first | exact fun _ s => s | apply en_keep | apply en_drop | apply en_app) <;> fail) ⟨by simp_all [retv], rfl⟩
  case' y27 =>
    have hd27 := hc27
    try simp only [decide_eq_true_eq, decide_eq_false_iff_not, Bool.not_true, Bool.not_false, Bool.not_eq_true', Bool.not_eq_false'] at hd27
    refine GO_q rfl rfl (ev_fieldAddr rfl) ?_
    refine GO_yes rfl rfl rfl hc27 ?_
    refine GO_q rfl rfl (ev_load rfl (by repeat' first | exact Ld.blk rfl | assumption | apply Ld.skip | apply Ld.app)) ?_
    refine GO_yes rfl rfl rfl hc27 ?_
    refine GO_eff rfl rfl (eff_call rfl (Good_ctr _ _)) ?_; rintro _ _ ⟨rfl, rfl⟩
    refine GO_q rfl rfl (ev_pick_t rfl hc27 rfl) ?_
    refine GO_q rfl rfl (ev_assign rfl) ?_
    refine GO_nil ?_
    (repeat first | refine G_seq ?_ | refine G_skip ?_ | refine G_endblk ?_ | refine G_block ?_ | refine G_exit rfl ?_)
    refine G_ret rfl (.tmp rfl .nil) (by (repeat first | exact fun _ s => s | apply en_keep | apply en_drop | apply en_app) <;> fail) ⟨by simp_all [retv], rfl⟩
theorem KGood_ctr (p : Pt) (L : List HP) : Ctr Tryz.prog 47 #[p.v] L fun v L' => v = .bool (goodP p) ∧ L' = L := by
  refine Ctr_of (fn := Tryz.f47) (n := 10) Tryz.func47 rfl rfl rfl ?_
  intro g F
  (repeat first | refine G_seq ?_ | refine G_skip ?_ | refine G_endblk ?_ | refine G_block ?_ | refine G_exit rfl ?_)
  refine G_region ?_
  refine GO_eff rfl rfl (eff_box rfl) ?_; rintro _ _ ⟨b1, rfl, rfl⟩
  refine GO_q rfl rfl (ev_assign rfl) ?_
  refine GO_nil ?_
  (repeat first | refine G_seq ?_ | refine G_skip ?_ | refine G_endblk ?_ | refine G_block ?_ | refine G_exit rfl ?_)
  refine G_region ?_
  refine GO_q rfl rfl (ev_fieldAddr rfl) ?_
  refine GO_q rfl rfl (ev_load rfl (by repeat' first | exact Ld.blk rfl | assumption | apply Ld.skip | apply Ld.app)) ?_
  refine GO_eff rfl rfl (eff_call rfl (kid_id_ctr _ _)) ?_; rintro _ _ ⟨rfl, rfl⟩
  refine GO_q rfl rfl (ev_move rfl) ?_
  refine GO_guard rfl rfl rfl (fun hc40 => ?y40) (fun hc40 => ?n40)
  case' n40 =>
    have hd40 := hc40
    try simp only [decide_eq_true_eq, decide_eq_false_iff_not, Bool.not_true, Bool.not_false, Bool.not_eq_true', Bool.not_eq_false'] at hd40
    refine GO_no rfl rfl rfl hc40 ?_
    refine GO_q rfl rfl (ev_pick_f rfl hc40 rfl) ?_
    refine GO_q rfl rfl (ev_assign rfl) ?_
    refine GO_nil ?_
    (repeat first | refine G_seq ?_ | refine G_skip ?_ | refine G_endblk ?_ | refine G_block ?_ | refine G_exit rfl ?_)
    refine G_ret rfl (.tmp rfl .nil) (by (repeat first | exact fun _ s => s | apply en_keep | apply en_drop | apply en_app) <;> fail) ⟨by simp_all [retv, goodP], rfl⟩
  case' y40 =>
    have hd40 := hc40
    try simp only [decide_eq_true_eq, decide_eq_false_iff_not, Bool.not_true, Bool.not_false, Bool.not_eq_true', Bool.not_eq_false'] at hd40
    refine GO_q rfl rfl (ev_loadN rfl (by repeat' first | exact LdN.blk rfl | assumption | apply LdN.skip | apply LdN.app)) ?_
    refine GO_yes rfl rfl rfl hc40 ?_
    refine GO_eff rfl rfl (eff_call rfl (lies_ctr p _)) ?_; rintro _ _ ⟨rfl, rfl⟩
    refine GO_q rfl rfl (ev_pick_t rfl hc40 rfl) ?_
    refine GO_q rfl rfl (ev_assign rfl) ?_
    refine GO_nil ?_
    (repeat first | refine G_seq ?_ | refine G_skip ?_ | refine G_endblk ?_ | refine G_block ?_ | refine G_exit rfl ?_)
    refine G_ret rfl (.tmp rfl .nil) (by (repeat first | exact fun _ s => s | apply en_keep | apply en_drop | apply en_app) <;> fail) ⟨by simp_all [retv, goodP], rfl⟩

def atI (l : List Pt) (p : Pt) : Int := if p ∈ l then (l.idxOf p : Nat) else -1
def insR (most : Int) (l : List Pt) (p : Pt) : List Pt := if insC most l p = 0 then l ++ [p] else l
/-- The ids of the points that are meant. -/
def hits (f : Pt → Bool) (l : List Pt) : List Int := (l.filter f).map (·.id)
end Go.Proofs.YtjgdhkilnalejaaGreat
/- make([]T, 0, n). No program stands in this text. -/
namespace Go.Proofs.YtjgdhkilnalejaaGreat
open Go.RowKit
section
variable {P : Program} {g : Glob} {L M : List HP} {σ : Env} {d : Option Nat} {ty T T' : TypeId} {pos : String} {aft : Array Edge} {gd : Option (Nat × Bool)} {x y : Operand} {v : Value}
theorem eff_make0 {e sz by_ k : Nat} {kd kc : IntKind} {zs : List Value} [H : SliceT P T (e, sz, by_)] [HZ : ZeroT P e zs] (hx : ev σ x = some (.int kd 0)) (hy : ev σ y = some (.int kc (k : Int)))
    (hb : k * by_ ≤ 140737488355328) (hm : k ≤ 140737488355328) :
    Eff P g L σ ⟨d, .makeSlice T x y, ty, pos, aft, gd⟩ fun r L' => ∃ b', r = .slice (some ⟨b', 0, none⟩) 0 k ∧ L' = own e sz (some ⟨b', 0, none⟩) 0 k [] :: L := fun a w hs hw K Q hK => by
  obtain ⟨ti, zv, hu, hi, hsz, hby, hiz, hzv⟩ := H.zero HZ
  have hb' : (ti.bytes : Int) * (k : Int) ≤ 281474976710656 := by
    rw [hby]
    have h : ((by_ * k : Nat) : Int) ≤ 281474976710656 := by rw [Nat.mul_comm]; omega
    rwa [Int.natCast_mul] at h
  have hrun := run_make (P := P) w T e ti zv hu hi hiz kd kc 0 k (Int.le_refl _) (by omega) hb' (by omega)
  simp only [Int.toNat_zero, Int.toNat_natCast] at hrun
  unfold Oper.wp
  simp only [execOp, hs.eval hx, hs.eval hy]
  simp only [Sem.run_bind, Sem.run_pure, Result.andThen_ok, hrun]
  have hal := hw.alloc e (madeCells zv.cells (k * ti.size)).toList
  rw [Array.toArray_toList] at hal
  refine hK _ _ _ ⟨w.heap.size, rfl, rfl⟩ ?_
  obtain ⟨j1, j2, d2, t1, t2, hb2, l2⟩ := hal.s
  refine ⟨hal.g, j1, j2, d2, t1, t2, ?_, l2⟩
  have h9 := own.cls (sz := sz) (n := 0) (c := k) hb2 (by rw [Array.length_toList, size_madeCells, hsz]) (Nat.zero_le _) (by unfold maxLen; omega)
  simpa using h9
end
end Go.Proofs.YtjgdhkilnalejaaGreat
/- Lists in order, by any order that has no equal ones: the walks (out of master/so.master). -/
namespace Go.Proofs.YtjgdhkilnalejaaGreat
attribute [local irreducible] sat
set_option linter.unusedVariables false
set_option linter.unusedSimpArgs false
set_option maxRecDepth 100000

/-- A function that tells of an order. -/
structure LsT (f : FuncId) (ls : Pt → Pt → Bool) : Prop where
  ctr : ∀ (p q : Pt) (L : List HP), Ctr Tryz.prog f #[p.v, q.v] L fun v L' => v = .bool (ls p q) ∧ L' = L
theorem ld_ownP {b n c i : Nat} {T : TypeId} {l : List Pt} {x : Pt} (hn : l.length = n) (h : l[i]? = some x) (L : List HP) : LdN (own T 3 (some ⟨b, 0, none⟩) n c (flat l) :: L) b (0 + i * 3) 3 [.int .i64 x.id, .int .i64 x.x, .int .i64 x.y] := by
  have hlt : i < l.length := (List.getElem?_eq_some_iff.1 h).1
  have r : Rd (own T 3 (some ⟨b, 0, none⟩) n c (flat l) :: L) (some ⟨b, 0, none⟩) n l := Rc.own (by rw [flat_length, hn]; rfl) (fun _ => ⟨b, rfl⟩)
  obtain ⟨_, _, e, hx⟩ := r.at_ (by omega)
  cases e
  exact hx i x h
theorem by_swapP {A R : List Pt} {x p : Pt} {k : Nat} (hk : k = A.length + 1) : ((A ++ p :: x :: R).set k p).set (k - 1) x = A ++ x :: p :: R ∧ (A ++ p :: x :: R)[k]? = some x ∧ (A ++ p :: x :: R)[k - 1]? = some p := by
  subst hk
  refine ⟨?_, ?_, ?_⟩
  · simp [List.set_append]
  · simp [List.getElem?_append]
  · simp
theorem setN_pt (l : List Pt) (i : Nat) (a : Pt) (hi : i < l.length) : setN (flat l) (0 + i * 3) [.int .i64 a.id, .int .i64 a.x, .int .i64 a.y] = flat (l.set i a) := by
  rw [Nat.zero_add]; exact flat_setN l i a hi
section
variable {f : FuncId} [CalT Tryz.prog f] {ls : Pt → Pt → Bool} (o : STO ls) (hf : LsT f ls)
include o hf
theorem byO_ctr (A : Option Addr) (n c : Nat) (l : List Pt) (L : List HP) (hl : Rd L A n l) (hn : n ≤ 1000000) :
    Ctr Tryz.prog 135 #[.slice A n c, .func (.func f) #[] #[]] L fun v L' => Made 58 (srtO ls l) L v L' := by
  have h1 : l.length = n := hl.len (by decide)
  refine Ctr_of (fn := Tryz.f135) (n := 51) Tryz.func135 rfl rfl rfl ?_
  intro g F
  (repeat first | refine G_seq ?_ | refine G_skip ?_ | refine G_endblk ?_ | refine G_block ?_ | refine G_exit rfl ?_)
  refine G_region ?_
  refine GO_q rfl rfl (ev_assign rfl) ?_
  refine GO_nil ?_
  (repeat first | refine G_seq ?_ | refine G_skip ?_ | refine G_endblk ?_ | refine G_block ?_ | refine G_exit rfl ?_)
  refine G_region ?_
  refine GO_q rfl rfl (ev_move rfl) ?_
  refine GO_eff rfl rfl (eff_call rfl (Clone_ctr A n c l _ (by repeat' first | exact Rc.blk rfl | assumption | apply Rd.skip | apply Rd.app) hn)) ?_; rintro _ _ ⟨B, e, rfl, hB, rfl⟩
  refine GO_q rfl rfl (ev_assign rfl) ?_
  refine GO_nil ?_
  (repeat first | refine G_seq ?_ | refine G_skip ?_ | refine G_endblk ?_ | refine G_block ?_ | refine G_exit rfl ?_)
  refine G_region ?_
  refine GO_q rfl rfl (ev_move rfl) ?_
  refine GO_q rfl rfl (ev_len rfl) ?_
  refine GO_q rfl rfl (ev_move rfl) ?_
  refine GO_nil ?_
  (repeat first | refine G_seq ?_ | refine G_skip ?_ | refine G_endblk ?_ | refine G_block ?_ | refine G_exit rfl ?_)
  refine G_loop (ι := Nat × List Pt) (fun z => [(1, .func (.func f) #[] #[]), (5, .slice B n e), (11, .int .i64 (n : Nat)), (12, .int .i64 (z.1 : Nat))]) (fun z => own 58 3 B n e (flat z.2) :: F :: L) (fun z => z.1 ≤ n ∧ z.2.Perm l ∧ SrtO ls (z.2.take z.1)) (fun z => n - z.1) (0, l) ⟨Nat.zero_le _, .refl _, by simp [SrtO]⟩ ⟨rfl, by rw [← h1]; rfl, by rw [← h1]; rfl, rfl, trivial⟩ (by rw [← h1]; exact (by (repeat first | exact en_refl | (apply en_blk; focus ((repeat' first | exact Pick.here | apply Pick.skip | apply Pick.app); done); focus rfl) | (apply en_own; focus ((repeat' first | exact Pick.here | apply Pick.skip | apply Pick.app); done); focus rfl) | (apply en_pick; focus ((repeat' first | exact Pick.here | apply Pick.skip | apply Pick.app); done)) | apply en_drop | apply en_app) <;> fail)) ?_
  rintro ⟨i, m⟩ ⟨f1, f2, f3⟩
  simp only at f1 f2 f3
  dsimp only
  have hm : m.length = n := by rw [f2.length_eq, h1]
  (repeat first | refine G_seq ?_ | refine G_skip ?_ | refine G_endblk ?_ | refine G_block ?_ | refine G_exit rfl ?_)
  refine G_region ?_
  (first | refine GO_q rfl rfl (ev_lssN rfl rfl) ?_ | refine GO_q rfl rfl (ev_lss rfl rfl) ?_)
  refine GO_nil ?_
  (repeat first | refine G_seq ?_ | refine G_skip ?_ | refine G_endblk ?_ | refine G_block ?_ | refine G_exit rfl ?_)
  refine G_cond rfl (fun c1 => ?_) (fun c1 => ?_)
  · (repeat first | refine G_seq ?_ | refine G_skip ?_ | refine G_endblk ?_ | refine G_block ?_ | refine G_exit rfl ?_)
    refine G_region ?_
    refine GO_q rfl rfl (ev_move rfl) ?_
    refine GO_q rfl rfl (ev_assign rfl) ?_
    refine GO_nil ?_
    (repeat first | refine G_seq ?_ | refine G_skip ?_ | refine G_endblk ?_ | refine G_block ?_ | refine G_exit rfl ?_)
    refine G_region ?_
    refine GO_q rfl rfl (ev_move rfl) ?_
    refine GO_q rfl rfl (ev_assign rfl) ?_
    refine GO_nil ?_
    have hxi : m[i]? = some m[i] := List.getElem?_eq_getElem (by omega)
    have hsp : m = m.take i ++ m[i] :: m.drop (i + 1) := by
      conv => lhs; rw [← List.take_append_drop i m, List.drop_eq_getElem_cons (by omega)]
    have hPl : (m.take i).length = i := by rw [List.length_take]; omega
    obtain ⟨b, rfl⟩ := hB (by omega)
    generalize m[i] = x at *
    generalize m.take i = P at *
    generalize m.drop (i + 1) = D at *
    (repeat first | refine G_seq ?_ | refine G_skip ?_ | refine G_endblk ?_ | refine G_block ?_ | refine G_exit rfl ?_)
    refine G_loop (ι := Nat) (fun k => [(1, .func (.func f) #[] #[]), (5, .slice (some ⟨b, 0, none⟩) n e), (11, .int .i64 (n : Nat)), (12, .int .i64 (i : Nat)), (7, .int .i64 (k : Nat))]) (fun k => own 58 3 (some ⟨b, 0, none⟩) n e (flat (P.take k ++ x :: (P.drop k ++ D))) :: F :: L) (fun k => k ≤ i ∧ ∀ y ∈ P.drop k, ls x y = true) (fun k => k) i ⟨Nat.le_refl _, by rw [List.drop_of_length_le (by omega)]; simp⟩ ⟨rfl, rfl, rfl, rfl, rfl, trivial⟩ (by rw [List.take_of_length_le (by omega), List.drop_of_length_le (by omega), List.nil_append, ← hsp]; exact fun _ s => s) ?_
    rintro k ⟨q1, q2⟩
    by_cases c2 : 0 < k
    · have hg : P[k - 1]? = some P[k - 1] := List.getElem?_eq_getElem (by omega)
      have e1 : P.take k = P.take (k - 1) ++ [P[k - 1]] := by
        have := List.take_succ_eq_append_getElem (l := P) (i := k - 1) (by omega)
        rwa [show k - 1 + 1 = k by omega] at this
      have e2 : P.drop (k - 1) = P[k - 1] :: P.drop k := by
        have := List.drop_eq_getElem_cons (l := P) (i := k - 1) (by omega)
        rwa [show k - 1 + 1 = k by omega] at this
      have hAl : (P.take (k - 1)).length = k - 1 := by rw [List.length_take]; omega
      have hlen : (P.take k ++ x :: (P.drop k ++ D)).length = n := by
        rw [← hm, hsp]; simp; omega
      generalize P[k - 1] = p at *
      obtain ⟨s1, s2, s3⟩ := by_swapP (A := P.take (k - 1)) (R := P.drop k ++ D) (x := x) (p := p) (k := k) (by omega)
      have e3 : P.take k ++ x :: (P.drop k ++ D) = P.take (k - 1) ++ p :: x :: (P.drop k ++ D) := by rw [e1]; simp
      have e4 : P.take (k - 1) ++ x :: (P.drop (k - 1) ++ D) = P.take (k - 1) ++ x :: p :: (P.drop k ++ D) := by rw [e2]; simp
      rw [← e3] at s1 s2 s3
      cases c3 : ls x p with
      | true =>
        (repeat first | refine G_seq ?_ | refine G_skip ?_ | refine G_endblk ?_ | refine G_block ?_ | refine G_exit rfl ?_)
        refine G_draw (.q 0 (.q 1 (.q 2 (.q 3 (.q 4 (.q 5 (.q 6 (.q 7 (.q 8 (.q 9 (.q 10 (.q 11 (.q 12 (.e 13 (.q 14 .nil))))))))))))))) (by kernel_rfl) (by kernel_rfl) ?_
        refine RS_m retB_noPanic rfl rfl rfl rfl (ev_move rfl) ?_
        refine RS_m retB_noPanic rfl rfl rfl rfl (ev_gtr rfl rfl) ?_
        refine RS_m retB_noPanic rfl rfl rfl rfl (ev_move rfl) ?_
        refine RS_m_yes retB_noPanic rfl rfl rfl rfl ⟨_, rfl, (decide_eq_true (by omega))⟩ rfl (ev_move rfl) ?_
        refine RS_m_yes retB_noPanic rfl rfl rfl rfl ⟨_, rfl, (decide_eq_true (by omega))⟩ rfl (ev_move rfl) ?_
        refine RS_m_yes retB_noPanic rfl rfl rfl rfl ⟨_, rfl, (decide_eq_true (by omega))⟩ rfl (ev_move rfl) ?_
        (first | refine RS_m_yes retB_noPanic rfl rfl rfl rfl ⟨_, rfl, (decide_eq_true (by omega))⟩ rfl (ev_indexAddrN rfl rfl (by first | omega | (simp; done) | (simp; omega))) ?_ | refine RS_m_yes retB_noPanic rfl rfl rfl rfl ⟨_, rfl, (decide_eq_true (by omega))⟩ rfl (ev_indexAddr rfl rfl (by first | omega | (simp; done) | (simp; omega)) (by first | omega | (simp; done) | (simp; omega))) ?_)
        refine RS_q_yes retB_noPanic rfl rfl rfl rfl ⟨_, rfl, (decide_eq_true (by omega))⟩ rfl (ev_loadN rfl (by repeat' first | exact ld_ownP hlen s2 _ | apply LdN.skip)) ?_
        refine RS_m_yes retB_noPanic rfl rfl rfl rfl ⟨_, rfl, (decide_eq_true (by omega))⟩ rfl (ev_move rfl) ?_
        refine RS_m_yes retB_noPanic rfl rfl rfl rfl ⟨_, rfl, (decide_eq_true (by omega))⟩ rfl (ev_move rfl) ?_
        (first | refine RS_m_yes retB_noPanic rfl rfl rfl rfl ⟨_, rfl, (decide_eq_true (by omega))⟩ rfl (ev_subN (q := 1) rfl rfl (by first | omega | (simp; done) | (simp; omega))) ?_ | refine RS_m_yes retB_noPanic rfl rfl rfl rfl ⟨_, rfl, (decide_eq_true (by omega))⟩ rfl (ev_sub rfl rfl (by first | omega | (simp; done) | (simp; omega))) ?_)
        (first | refine RS_m_yes retB_noPanic rfl rfl rfl rfl ⟨_, rfl, (decide_eq_true (by omega))⟩ rfl (ev_indexAddrN rfl rfl (by first | omega | (simp; done) | (simp; omega))) ?_ | refine RS_m_yes retB_noPanic rfl rfl rfl rfl ⟨_, rfl, (decide_eq_true (by omega))⟩ rfl (ev_indexAddr rfl rfl (by first | omega | (simp; done) | (simp; omega)) (by first | omega | (simp; done) | (simp; omega))) ?_)
        refine RS_q_yes retB_noPanic rfl rfl rfl rfl ⟨_, rfl, (decide_eq_true (by omega))⟩ rfl (ev_loadN rfl (by repeat' first | exact ld_ownP hlen s3 _ | apply LdN.skip)) ?_
        refine RS_e (RE_eff_yes rfl rfl rfl ⟨_, rfl, (decide_eq_true (by omega))⟩ rfl (eff_callv rfl rfl (hf.ctr x p _)) ?_); rintro _ _ ⟨rfl, rfl⟩; refine ⟨_, fun _ s => s, (by first | ((repeat first | exact fun _ s => s | apply en_keep | apply en_drop | apply en_app) <;> fail) | ((repeat first | exact en_refl | (apply en_blk; focus ((repeat' first | exact Pick.here | apply Pick.skip | apply Pick.app); done); focus rfl) | (apply en_own; focus ((repeat' first | exact Pick.here | apply Pick.skip | apply Pick.app); done); focus rfl) | (apply en_pick; focus ((repeat' first | exact Pick.here | apply Pick.skip | apply Pick.app); done)) | apply en_drop | apply en_app) <;> fail)), ?_⟩
        refine RS_m retB_noPanic rfl rfl rfl rfl (ev_pick_t rfl (decide_eq_true (by omega)) rfl) ?_
        refine RS_nil ?_
        (repeat first | refine G_seq ?_ | refine G_skip ?_ | refine G_endblk ?_ | refine G_block ?_ | refine G_exit rfl ?_)
        refine G_cond_t rfl c3 ?_
        (repeat first | refine G_seq ?_ | refine G_skip ?_ | refine G_endblk ?_ | refine G_block ?_ | refine G_exit rfl ?_)
        refine G_draw (.q 0 (.q 1 (.q 2 (.q 3 (.q 4 (.q 5 (.q 6 (.q 7 (.q 8 (.q 9 (.q 10 (.q 11 (.q 12 (.q 13 (.q 14 (.e 15 (.q 16 (.e 17 .nil)))))))))))))))))) (by kernel_rfl) (by kernel_rfl) ?_
        refine RS_m retB_noPanic rfl rfl rfl rfl (ev_move rfl) ?_
        refine RS_m retB_noPanic rfl rfl rfl rfl (ev_move rfl) ?_
        refine RS_m retB_noPanic rfl rfl rfl rfl (ev_move rfl) ?_
        refine RS_m retB_noPanic rfl rfl rfl rfl (ev_move rfl) ?_
        (first | refine RS_m retB_noPanic rfl rfl rfl rfl (ev_subN (q := 1) rfl rfl (by first | omega | (simp; done) | (simp; omega))) ?_ | refine RS_m retB_noPanic rfl rfl rfl rfl (ev_sub rfl rfl (by first | omega | (simp; done) | (simp; omega))) ?_)
        refine RS_m retB_noPanic rfl rfl rfl rfl (ev_move rfl) ?_
        refine RS_m retB_noPanic rfl rfl rfl rfl (ev_move rfl) ?_
        (first | refine RS_m retB_noPanic rfl rfl rfl rfl (ev_subN (q := 1) rfl rfl (by first | omega | (simp; done) | (simp; omega))) ?_ | refine RS_m retB_noPanic rfl rfl rfl rfl (ev_sub rfl rfl (by first | omega | (simp; done) | (simp; omega))) ?_)
        (first | refine RS_m retB_noPanic rfl rfl rfl rfl (ev_indexAddrN rfl rfl (by first | omega | (simp; done) | (simp; omega))) ?_ | refine RS_m retB_noPanic rfl rfl rfl rfl (ev_indexAddr rfl rfl (by first | omega | (simp; done) | (simp; omega)) (by first | omega | (simp; done) | (simp; omega))) ?_)
        refine RS_q retB_noPanic rfl rfl rfl rfl (ev_loadN rfl (by repeat' first | exact ld_ownP hlen s3 _ | apply LdN.skip)) ?_
        refine RS_m retB_noPanic rfl rfl rfl rfl (ev_move rfl) ?_
        refine RS_m retB_noPanic rfl rfl rfl rfl (ev_move rfl) ?_
        (first | refine RS_m retB_noPanic rfl rfl rfl rfl (ev_indexAddrN rfl rfl (by first | omega | (simp; done) | (simp; omega))) ?_ | refine RS_m retB_noPanic rfl rfl rfl rfl (ev_indexAddr rfl rfl (by first | omega | (simp; done) | (simp; omega)) (by first | omega | (simp; done) | (simp; omega))) ?_)
        refine RS_q retB_noPanic rfl rfl rfl rfl (ev_loadN rfl (by repeat' first | exact ld_ownP hlen s2 _ | apply LdN.skip)) ?_
        (first | refine RS_m retB_noPanic rfl rfl rfl rfl (ev_indexAddrN rfl rfl (by first | omega | (simp; done) | (simp; omega))) ?_ | refine RS_m retB_noPanic rfl rfl rfl rfl (ev_indexAddr rfl rfl (by first | omega | (simp; done) | (simp; omega)) (by first | omega | (simp; done) | (simp; omega))) ?_)
        refine RS_e (RE_cmp (by kernel_rfl) rfl rfl rfl ((eff_storeNO (vs := [.int .i64 p.id, .int .i64 p.x, .int .i64 p.y]) rfl rfl rfl rfl (by repeat' first | exact Pick.here | apply Pick.skip | apply Pick.app) (by simp only [List.length_cons, List.length_nil]; omega))) ?_); rintro _ _ ⟨rfl, rfl⟩
        (first | refine RS_m retB_noPanic rfl rfl rfl rfl (ev_indexAddrN rfl rfl (by first | omega | (simp; done) | (simp; omega))) ?_ | refine RS_m retB_noPanic rfl rfl rfl rfl (ev_indexAddr rfl rfl (by first | omega | (simp; done) | (simp; omega)) (by first | omega | (simp; done) | (simp; omega))) ?_)
        refine RS_e (RE_last (by kernel_rfl) rfl rfl rfl ((eff_storeNO (vs := [.int .i64 x.id, .int .i64 x.x, .int .i64 x.y]) rfl rfl rfl rfl (by repeat' first | exact Pick.here | apply Pick.skip | apply Pick.app) (by simp only [List.length_cons, List.length_nil]; omega))) ?_); rintro _ _ ⟨rfl, rfl⟩
        rw [setN_pt _ _ _ (by omega), setN_pt _ _ _ (by rw [List.length_set]; omega), s1, ← e4]
        (repeat first | refine G_seq ?_ | refine G_skip ?_ | refine G_endblk ?_ | refine G_block ?_ | refine G_exit rfl ?_)
        refine G_region ?_
        refine GO_q rfl rfl (ev_move rfl) ?_
        (first | refine GO_q rfl rfl (ev_subN (q := 1) rfl rfl (by first | omega | (simp; done) | (simp; omega))) ?_ | refine GO_q rfl rfl (ev_sub rfl rfl (by first | omega | (simp; done) | (simp; omega))) ?_)
        refine GO_q rfl rfl (ev_assign rfl) ?_
        refine GO_nil ?_
        (repeat first | refine G_seq ?_ | refine G_skip ?_ | refine G_endblk ?_ | refine G_block ?_ | refine G_exit rfl ?_)
        exact G_round (k - 1) ⟨by omega, by rw [e2]; exact fun y hy => (List.mem_cons.1 hy).elim (fun h => h ▸ c3) (q2 y)⟩ (by omega) ⟨rfl, rfl, rfl, rfl, rfl, trivial⟩ (fun _ s => s)
      | false =>
        (repeat first | refine G_seq ?_ | refine G_skip ?_ | refine G_endblk ?_ | refine G_block ?_ | refine G_exit rfl ?_)
        refine G_draw (.q 0 (.q 1 (.q 2 (.q 3 (.q 4 (.q 5 (.q 6 (.q 7 (.q 8 (.q 9 (.q 10 (.q 11 (.q 12 (.e 13 (.q 14 .nil))))))))))))))) (by kernel_rfl) (by kernel_rfl) ?_
        refine RS_m retB_noPanic rfl rfl rfl rfl (ev_move rfl) ?_
        refine RS_m retB_noPanic rfl rfl rfl rfl (ev_gtr rfl rfl) ?_
        refine RS_m retB_noPanic rfl rfl rfl rfl (ev_move rfl) ?_
        refine RS_m_yes retB_noPanic rfl rfl rfl rfl ⟨_, rfl, (decide_eq_true (by omega))⟩ rfl (ev_move rfl) ?_
        refine RS_m_yes retB_noPanic rfl rfl rfl rfl ⟨_, rfl, (decide_eq_true (by omega))⟩ rfl (ev_move rfl) ?_
        refine RS_m_yes retB_noPanic rfl rfl rfl rfl ⟨_, rfl, (decide_eq_true (by omega))⟩ rfl (ev_move rfl) ?_
        (first | refine RS_m_yes retB_noPanic rfl rfl rfl rfl ⟨_, rfl, (decide_eq_true (by omega))⟩ rfl (ev_indexAddrN rfl rfl (by first | omega | (simp; done) | (simp; omega))) ?_ | refine RS_m_yes retB_noPanic rfl rfl rfl rfl ⟨_, rfl, (decide_eq_true (by omega))⟩ rfl (ev_indexAddr rfl rfl (by first | omega | (simp; done) | (simp; omega)) (by first | omega | (simp; done) | (simp; omega))) ?_)
        refine RS_q_yes retB_noPanic rfl rfl rfl rfl ⟨_, rfl, (decide_eq_true (by omega))⟩ rfl (ev_loadN rfl (by repeat' first | exact ld_ownP hlen s2 _ | apply LdN.skip)) ?_
        refine RS_m_yes retB_noPanic rfl rfl rfl rfl ⟨_, rfl, (decide_eq_true (by omega))⟩ rfl (ev_move rfl) ?_
        refine RS_m_yes retB_noPanic rfl rfl rfl rfl ⟨_, rfl, (decide_eq_true (by omega))⟩ rfl (ev_move rfl) ?_
        (first | refine RS_m_yes retB_noPanic rfl rfl rfl rfl ⟨_, rfl, (decide_eq_true (by omega))⟩ rfl (ev_subN (q := 1) rfl rfl (by first | omega | (simp; done) | (simp; omega))) ?_ | refine RS_m_yes retB_noPanic rfl rfl rfl rfl ⟨_, rfl, (decide_eq_true (by omega))⟩ rfl (ev_sub rfl rfl (by first | omega | (simp; done) | (simp; omega))) ?_)
        (first | refine RS_m_yes retB_noPanic rfl rfl rfl rfl ⟨_, rfl, (decide_eq_true (by omega))⟩ rfl (ev_indexAddrN rfl rfl (by first | omega | (simp; done) | (simp; omega))) ?_ | refine RS_m_yes retB_noPanic rfl rfl rfl rfl ⟨_, rfl, (decide_eq_true (by omega))⟩ rfl (ev_indexAddr rfl rfl (by first | omega | (simp; done) | (simp; omega)) (by first | omega | (simp; done) | (simp; omega))) ?_)
        refine RS_q_yes retB_noPanic rfl rfl rfl rfl ⟨_, rfl, (decide_eq_true (by omega))⟩ rfl (ev_loadN rfl (by repeat' first | exact ld_ownP hlen s3 _ | apply LdN.skip)) ?_
        refine RS_e (RE_eff_yes rfl rfl rfl ⟨_, rfl, (decide_eq_true (by omega))⟩ rfl (eff_callv rfl rfl (hf.ctr x p _)) ?_); rintro _ _ ⟨rfl, rfl⟩; refine ⟨_, fun _ s => s, (by first | ((repeat first | exact fun _ s => s | apply en_keep | apply en_drop | apply en_app) <;> fail) | ((repeat first | exact en_refl | (apply en_blk; focus ((repeat' first | exact Pick.here | apply Pick.skip | apply Pick.app); done); focus rfl) | (apply en_own; focus ((repeat' first | exact Pick.here | apply Pick.skip | apply Pick.app); done); focus rfl) | (apply en_pick; focus ((repeat' first | exact Pick.here | apply Pick.skip | apply Pick.app); done)) | apply en_drop | apply en_app) <;> fail)), ?_⟩
        refine RS_m retB_noPanic rfl rfl rfl rfl (ev_pick_t rfl (decide_eq_true (by omega)) rfl) ?_
        refine RS_nil ?_
        (repeat first | refine G_seq ?_ | refine G_skip ?_ | refine G_endblk ?_ | refine G_block ?_ | refine G_exit rfl ?_)
        refine G_cond_f rfl c3 ?_
        (repeat first | refine G_seq ?_ | refine G_skip ?_ | refine G_endblk ?_ | refine G_block ?_ | refine G_exit rfl ?_)
        refine G_region ?_
        (first | refine GO_q rfl rfl (ev_addN (q := 1) rfl rfl (by first | omega | (simp; done) | (simp; omega))) ?_ | refine GO_q rfl rfl (ev_add rfl rfl (by first | omega | (simp; done) | (simp; omega))) ?_)
        refine GO_q rfl rfl (ev_move rfl) ?_
        refine GO_nil ?_
        (repeat first | refine G_seq ?_ | refine G_skip ?_ | refine G_endblk ?_ | refine G_block ?_ | refine G_exit rfl ?_)
        refine G_round (i + 1, P.take k ++ x :: (P.drop k ++ D)) ⟨by simp only; omega, ?_, ?_⟩ (by simp only; omega) ⟨rfl, rfl, rfl, rfl, trivial⟩ (fun _ s => s)
        · refine List.Perm.trans ?_ f2
          rw [hsp]
          simp only
          refine (List.perm_middle).trans (List.Perm.trans ?_ (List.perm_middle).symm)
          rw [← List.append_assoc, List.take_append_drop]
        · simp only
          have e5 : (P.take k ++ x :: (P.drop k ++ D)).take (i + 1) = P.take k ++ x :: P.drop k := by
            have : P.take k ++ x :: (P.drop k ++ D) = (P.take k ++ x :: P.drop k) ++ D := by simp
            rw [this, List.take_append_of_le_length (by simp; omega), List.take_of_length_le (by simp; omega)]
          rw [e5]
          unfold SrtO at f3 ⊢
          rw [← List.take_append_drop k P, List.pairwise_append] at f3
          rw [List.pairwise_append]
          refine ⟨f3.1, List.pairwise_cons.2 ⟨fun y hy => o.asym (q2 y hy), f3.2.1⟩, ?_⟩
          have hpx : ∀ a ∈ P.take k, ls x a = false := by
            rw [e1]
            intro a ha
            rcases List.mem_append.1 ha with ha | ha
            · have h9 := f3.1
              rw [e1, List.pairwise_append] at h9
              exact o.le_tr (h9.2.2 a ha p (by simp)) c3
            · simp at ha; subst ha; exact c3
          intro a ha y hy
          rcases List.mem_cons.1 hy with rfl | hy
          · exact hpx a ha
          · exact f3.2.2 a ha y hy
    · have e0 : k = 0 := by omega
      subst e0
      (repeat first | refine G_seq ?_ | refine G_skip ?_ | refine G_endblk ?_ | refine G_block ?_ | refine G_exit rfl ?_)
      refine G_draw (.q 0 (.q 1 (.q 2 (.q 3 (.q 4 (.q 5 (.q 6 (.q 7 (.q 8 (.q 9 (.q 10 (.q 11 (.q 12 (.e 13 (.q 14 .nil))))))))))))))) (by kernel_rfl) (by kernel_rfl) ?_
      refine RS_m retB_noPanic rfl rfl rfl rfl (ev_move rfl) ?_
      refine RS_m retB_noPanic rfl rfl rfl rfl (ev_gtr rfl rfl) ?_
      refine RS_m retB_noPanic rfl rfl rfl rfl (ev_move rfl) ?_
      refine RS_q_no retB_noPanic rfl rfl rfl ⟨_, rfl, (decide_eq_false (by omega))⟩ rfl ?_
      refine RS_q_no retB_noPanic rfl rfl rfl ⟨_, rfl, (decide_eq_false (by omega))⟩ rfl ?_
      refine RS_q_no retB_noPanic rfl rfl rfl ⟨_, rfl, (decide_eq_false (by omega))⟩ rfl ?_
      refine RS_q_no retB_noPanic rfl rfl rfl ⟨_, rfl, (decide_eq_false (by omega))⟩ rfl ?_
      refine RS_q_no retB_noPanic rfl rfl rfl ⟨_, rfl, (decide_eq_false (by omega))⟩ rfl ?_
      refine RS_q_no retB_noPanic rfl rfl rfl ⟨_, rfl, (decide_eq_false (by omega))⟩ rfl ?_
      refine RS_q_no retB_noPanic rfl rfl rfl ⟨_, rfl, (decide_eq_false (by omega))⟩ rfl ?_
      refine RS_q_no retB_noPanic rfl rfl rfl ⟨_, rfl, (decide_eq_false (by omega))⟩ rfl ?_
      refine RS_q_no retB_noPanic rfl rfl rfl ⟨_, rfl, (decide_eq_false (by omega))⟩ rfl ?_
      refine RS_q_no retB_noPanic rfl rfl rfl ⟨_, rfl, (decide_eq_false (by omega))⟩ rfl ?_
      refine RS_e (RE_no rfl rfl rfl ⟨_, rfl, (decide_eq_false (by omega))⟩ rfl ?_)
      refine RS_m retB_noPanic rfl rfl rfl rfl (ev_pick_f rfl (decide_eq_false (by omega)) rfl) ?_
      refine RS_nil ?_
      (repeat first | refine G_seq ?_ | refine G_skip ?_ | refine G_endblk ?_ | refine G_block ?_ | refine G_exit rfl ?_)
      refine G_cond_f rfl rfl ?_
      (repeat first | refine G_seq ?_ | refine G_skip ?_ | refine G_endblk ?_ | refine G_block ?_ | refine G_exit rfl ?_)
      refine G_region ?_
      (first | refine GO_q rfl rfl (ev_addN (q := 1) rfl rfl (by first | omega | (simp; done) | (simp; omega))) ?_ | refine GO_q rfl rfl (ev_add rfl rfl (by first | omega | (simp; done) | (simp; omega))) ?_)
      refine GO_q rfl rfl (ev_move rfl) ?_
      refine GO_nil ?_
      (repeat first | refine G_seq ?_ | refine G_skip ?_ | refine G_endblk ?_ | refine G_block ?_ | refine G_exit rfl ?_)
      refine G_round (i + 1, x :: (P ++ D)) ⟨by simp only; omega, ?_, ?_⟩ (by simp only; omega) ⟨rfl, rfl, rfl, rfl, trivial⟩ (fun _ s => s)
      · refine List.Perm.trans ?_ f2
        rw [hsp]
        exact (List.perm_middle).symm
      · simp only
        unfold SrtO at f3 ⊢
        rw [List.take_succ_cons, List.take_append_of_le_length (by omega), List.take_of_length_le (by omega)]
        exact List.pairwise_cons.2 ⟨fun y hy => o.asym (q2 y (by simpa using hy)), f3⟩
  · have e9 : i = n := by omega
    subst e9
    have : m = srtO ls l := srtO_eq o (by rwa [List.take_of_length_le (by omega)] at f3) f2
    subst this
    (repeat first | refine G_seq ?_ | refine G_skip ?_ | refine G_endblk ?_ | refine G_block ?_ | refine G_exit rfl ?_)
    refine G_region ?_
    refine GO_q rfl rfl (ev_move rfl) ?_
    refine GO_q rfl rfl (ev_assign rfl) ?_
    refine GO_nil ?_
    (repeat first | refine G_seq ?_ | refine G_skip ?_ | refine G_endblk ?_ | refine G_block ?_ | refine G_exit rfl ?_)
    refine G_ret (L' := own 58 3 B (srtO ls l).length e (flat (srtO ls l)) :: L) rfl (.tmp rfl .nil) ?_ ⟨B, e, by rw [hm]; rfl, by rw [hm]; exact fun h => hB (by omega), rfl⟩
    rw [hm]
    exact (by (repeat first | exact en_refl | (apply en_blk; focus ((repeat' first | exact Pick.here | apply Pick.skip | apply Pick.app); done); focus rfl) | (apply en_own; focus ((repeat' first | exact Pick.here | apply Pick.skip | apply Pick.app); done); focus rfl) | (apply en_pick; focus ((repeat' first | exact Pick.here | apply Pick.skip | apply Pick.app); done)) | apply en_drop | apply en_app) <;> fail)
theorem mergeO_ctr (A B : Option Addr) (n m c d : Nat) (l q : List Pt) (L : List HP) (hl : Rd L A n l) (hq : Rd L B m q) (hn : n ≤ 1000000) (hm : m ≤ 1000000) (hc : n ≤ c) (hd : m ≤ d) (sl : SrtO ls l) (sq : SrtO ls q) :
    Ctr Tryz.prog 136 #[.slice A n c, .slice B m d, .func (.func f) #[] #[]] L fun v L' => Made 58 (srtO ls (l ++ q)) L v L' := by
  have h1 : l.length = n := hl.len (by decide)
  have h2 : q.length = m := hq.len (by decide)
  refine Ctr_of (fn := Tryz.f136) (n := 51) Tryz.func136 rfl rfl rfl ?_
  intro g F
  (repeat first | refine G_seq ?_ | refine G_skip ?_ | refine G_endblk ?_ | refine G_block ?_ | refine G_exit rfl ?_)
  refine G_region ?_
  refine GO_q rfl rfl (ev_assign rfl) ?_
  refine GO_nil ?_
  (repeat first | refine G_seq ?_ | refine G_skip ?_ | refine G_endblk ?_ | refine G_block ?_ | refine G_exit rfl ?_)
  refine G_region ?_
  refine GO_q rfl rfl (ev_move rfl) ?_
  refine GO_q rfl rfl (ev_len rfl) ?_
  refine GO_q rfl rfl (ev_move rfl) ?_
  refine GO_q rfl rfl (ev_len rfl) ?_
  (first | refine GO_q rfl rfl (ev_addN rfl rfl (by first | omega | (simp; done) | (simp; omega))) ?_ | refine GO_q rfl rfl (ev_add rfl rfl (by first | omega | (simp; done) | (simp; omega))) ?_)
  refine GO_eff rfl rfl (eff_make0 rfl rfl (by omega) (by omega)) ?_; rintro _ _ ⟨b13, rfl, rfl⟩
  refine GO_q rfl rfl (ev_assign rfl) ?_
  refine GO_nil ?_
  (repeat first | refine G_seq ?_ | refine G_skip ?_ | refine G_endblk ?_ | refine G_block ?_ | refine G_exit rfl ?_)
  refine G_loop (ι := (Option Addr × Nat × List Pt) × (Option Addr × Nat × List Pt) × (Option Addr × Nat × List Pt)) (fun z => [(2, .func (.func f) #[] #[]), (0, .slice z.1.1 z.1.2.2.length z.1.2.1), (1, .slice z.2.1.1 z.2.1.2.2.length z.2.1.2.1), (7, .slice z.2.2.1 z.2.2.2.2.length z.2.2.2.1)]) (fun z => own 58 3 z.2.2.1 z.2.2.2.2.length z.2.2.2.1 (flat z.2.2.2.2) :: F :: L)
    (fun z => (Rd L z.1.1 z.1.2.2.length z.1.2.2 ∧ z.1.2.2.length ≤ z.1.2.1 ∧ SrtO ls z.1.2.2) ∧ (Rd L z.2.1.1 z.2.1.2.2.length z.2.1.2.2 ∧ z.2.1.2.2.length ≤ z.2.1.2.1 ∧ SrtO ls z.2.1.2.2) ∧ (z.2.2.2.2 ++ (z.1.2.2 ++ z.2.1.2.2)).Perm (l ++ q) ∧ SrtO ls z.2.2.2.2 ∧ (∀ w ∈ z.2.2.2.2, ∀ x ∈ z.1.2.2 ++ z.2.1.2.2, ls x w = false) ∧ (0 < z.2.2.2.2.length → ∃ b, z.2.2.1 = some ⟨b, 0, none⟩)) (fun z => z.1.2.2.length + z.2.1.2.2.length) ((A, c, l), (B, d, q), (some ⟨b13, 0, none⟩, n + m, [])) ⟨⟨by rw [h1]; exact hl, by simp only; omega, sl⟩, ⟨by rw [h2]; exact hq, by simp only; omega, sq⟩, .refl _, .nil, by simp, fun _ => ⟨b13, rfl⟩⟩ ⟨rfl, by rw [← h1]; rfl, by rw [← h2]; rfl, rfl, trivial⟩ (by (repeat first | exact en_refl | (apply en_blk; focus ((repeat' first | exact Pick.here | apply Pick.skip | apply Pick.app); done); focus rfl) | (apply en_own; focus ((repeat' first | exact Pick.here | apply Pick.skip | apply Pick.app); done); focus rfl) | (apply en_pick; focus ((repeat' first | exact Pick.here | apply Pick.skip | apply Pick.app); done)) | apply en_drop | apply en_app) <;> fail) ?_
  rintro ⟨⟨A1, c1, l1⟩, ⟨B1, d1, q1⟩, ⟨O, e, w⟩⟩ ⟨⟨f1, f2, f3⟩, ⟨k1, k2, k3⟩, hp, so, hle, hO⟩
  simp only at f1 f2 f3 k1 k2 k3 hp so hle hO
  dsimp only
  have hlen : w.length + (l1.length + q1.length) = n + m := by
    have := hp.length_eq
    simpa [h1, h2] using this
  refine G_pure (fun h s => own.facts (s)) ?_
  rintro ⟨w1, w2, w3, w4⟩
  unfold maxLen at w3
  by_cases hz : 0 < l1.length ∧ 0 < q1.length
  · obtain ⟨ab, ao, rfl, ax⟩ := f1.at_ hz.1
    obtain ⟨bb, bo, rfl, bx⟩ := k1.at_ hz.2
    obtain ⟨x, l2, rfl⟩ : ∃ x l2, l1 = x :: l2 := by cases l1 with
      | nil => simp at hz
      | cons x l2 => exact ⟨x, l2, rfl⟩
    obtain ⟨y, q2, rfl⟩ : ∃ y q2, q1 = y :: q2 := by cases q1 with
      | nil => simp at hz
      | cons y q2 => exact ⟨y, q2, rfl⟩
    have x1 : LdN L ab (ao + 0 * 3) 3 [.int .i64 x.id, .int .i64 x.x, .int .i64 x.y] := ax 0 x rfl
    have y1 : LdN L bb (bo + 0 * 3) 3 [.int .i64 y.id, .int .i64 y.x, .int .i64 y.y] := bx 0 y rfl
    unfold SrtO at f3 k3 so
    rw [List.pairwise_cons] at f3 k3
    simp only [List.length_cons] at *
    (repeat first | refine G_seq ?_ | refine G_skip ?_ | refine G_endblk ?_ | refine G_block ?_ | refine G_exit rfl ?_)
    refine G_region ?_
    refine GO_q rfl rfl (ev_move rfl) ?_
    refine GO_q rfl rfl (ev_len rfl) ?_
    refine GO_q rfl rfl (ev_gtr rfl rfl) ?_
    refine GO_q rfl rfl (ev_move rfl) ?_
    refine GO_yes rfl rfl rfl (decide_eq_true (by omega)) ?_
    refine GO_q rfl rfl (ev_move rfl) ?_
    refine GO_yes rfl rfl rfl (decide_eq_true (by omega)) ?_
    refine GO_q rfl rfl (ev_len rfl) ?_
    refine GO_yes rfl rfl rfl (decide_eq_true (by omega)) ?_
    refine GO_q rfl rfl (ev_gtr rfl rfl) ?_
    refine GO_q rfl rfl (ev_pick_t rfl (decide_eq_true (by omega)) rfl) ?_
    refine GO_nil ?_
    (repeat first | refine G_seq ?_ | refine G_skip ?_ | refine G_endblk ?_ | refine G_block ?_ | refine G_exit rfl ?_)
    refine G_cond_t rfl (decide_eq_true (by omega)) ?_
    (repeat first | refine G_seq ?_ | refine G_skip ?_ | refine G_endblk ?_ | refine G_block ?_ | refine G_exit rfl ?_)
    refine G_draw (.q 0 (.q 1 (.q 2 (.q 3 (.q 4 (.q 5 (.q 6 (.e 7 .nil)))))))) (by kernel_rfl) (by kernel_rfl) ?_
    refine RS_m retB_noPanic rfl rfl rfl rfl (ev_move rfl) ?_
    refine RS_m retB_noPanic rfl rfl rfl rfl (ev_move rfl) ?_
    (first | refine RS_m retB_noPanic rfl rfl rfl rfl (ev_indexAddrN rfl rfl (by first | omega | (simp; done) | (simp; omega))) ?_ | refine RS_m retB_noPanic rfl rfl rfl rfl (ev_indexAddr rfl rfl (by first | omega | (simp; done) | (simp; omega)) (by first | omega | (simp; done) | (simp; omega))) ?_)
    refine RS_q retB_noPanic rfl rfl rfl rfl (ev_loadN rfl (by repeat' first | exact LdN.blk rfl | assumption | apply LdN.skip | apply LdN.app)) ?_
    refine RS_m retB_noPanic rfl rfl rfl rfl (ev_move rfl) ?_
    (first | refine RS_m retB_noPanic rfl rfl rfl rfl (ev_indexAddrN rfl rfl (by first | omega | (simp; done) | (simp; omega))) ?_ | refine RS_m retB_noPanic rfl rfl rfl rfl (ev_indexAddr rfl rfl (by first | omega | (simp; done) | (simp; omega)) (by first | omega | (simp; done) | (simp; omega))) ?_)
    refine RS_q retB_noPanic rfl rfl rfl rfl (ev_loadN rfl (by repeat' first | exact LdN.blk rfl | assumption | apply LdN.skip | apply LdN.app)) ?_
    refine RS_e (RE_last (by kernel_rfl) rfl rfl rfl (eff_callv rfl rfl (hf.ctr y x _)) ?_); rintro _ _ ⟨rfl, rfl⟩
    cases hyx : ls y x with
    | true =>
      (repeat first | refine G_seq ?_ | refine G_skip ?_ | refine G_endblk ?_ | refine G_block ?_ | refine G_exit rfl ?_)
      refine G_cond_t rfl rfl ?_
      (repeat first | refine G_seq ?_ | refine G_skip ?_ | refine G_endblk ?_ | refine G_block ?_ | refine G_exit rfl ?_)
      refine G_drawE 0 (.q 0 (.q 1 (.q 2 (.q 3 (.q 6 (.q 7 (.e 4 (.e 5 (.q 8 (.q 9 .nil)))))))))) (by kernel_rfl) (by kernel_rfl) ?_
      refine RS_m retB_noPanic rfl rfl rfl rfl (ev_move rfl) ?_
      refine RS_m retB_noPanic rfl rfl rfl rfl (ev_move rfl) ?_
      (first | refine RS_m retB_noPanic rfl rfl rfl rfl (ev_indexAddrN rfl rfl (by first | omega | (simp; done) | (simp; omega))) ?_ | refine RS_m retB_noPanic rfl rfl rfl rfl (ev_indexAddr rfl rfl (by first | omega | (simp; done) | (simp; omega)) (by first | omega | (simp; done) | (simp; omega))) ?_)
      refine RS_q retB_noPanic rfl rfl rfl rfl (ev_loadN rfl (by repeat' first | exact LdN.blk rfl | assumption | apply LdN.skip | apply LdN.app)) ?_
      refine RS_m retB_noPanic rfl rfl rfl rfl (ev_move rfl) ?_
      refine RS_q retB_noPanic rfl rfl rfl rfl (ev_sliceL rfl rfl (by first | omega | (simp; done) | (simp; omega)) (by first | omega | (simp; done) | (simp; omega))) ?_
      refine RS_e (RE_eff rfl rfl rfl (eff_buildSlice1 (by rfl) rfl rfl) ?_); rintro _ _ ⟨b34, rfl, rfl⟩; refine ⟨_, (by first | ((repeat first | exact fun _ s => s | apply en_keep | apply en_drop | apply en_app) <;> fail) | ((repeat first | exact en_refl | (apply en_blk; focus ((repeat' first | exact Pick.here | apply Pick.skip | apply Pick.app); done); focus rfl) | (apply en_own; focus ((repeat' first | exact Pick.here | apply Pick.skip | apply Pick.app); done); focus rfl) | (apply en_pick; focus ((repeat' first | exact Pick.here | apply Pick.skip | apply Pick.app); done)) | apply en_drop | apply en_app) <;> fail)), fun _ s => s, ?_⟩
      refine RS_e (RE_eff rfl rfl rfl (eff_append rfl rfl (by repeat' first | exact Pick.here | apply Pick.skip) (by repeat' first | exact Rc.blk rfl | assumption | apply Rc.skip) (one_all rfl) (by rfl) (by decide) (by first | omega | (simp; done) | (simp; omega)) (by first | omega | (simp; done) | (simp; omega))) ?_); rintro _ _ ⟨A35, c35, rfl, hc35, hm35, hn35, rfl⟩; refine ⟨_, (by first | ((repeat first | exact fun _ s => s | apply en_keep | apply en_drop | apply en_app) <;> fail) | ((repeat first | exact en_refl | (apply en_blk; focus ((repeat' first | exact Pick.here | apply Pick.skip | apply Pick.app); done); focus rfl) | (apply en_own; focus ((repeat' first | exact Pick.here | apply Pick.skip | apply Pick.app); done); focus rfl) | (apply en_pick; focus ((repeat' first | exact Pick.here | apply Pick.skip | apply Pick.app); done)) | apply en_drop | apply en_app) <;> fail)), fun _ s => s, ?_⟩
      refine RS_m retB_noPanic rfl rfl rfl rfl (ev_assign rfl) ?_
      refine RS_m retB_noPanic rfl rfl rfl rfl (ev_assign rfl) ?_
      refine RS_nil ?_
      (repeat first | refine G_seq ?_ | refine G_skip ?_ | refine G_endblk ?_ | refine G_block ?_ | refine G_exit rfl ?_)
      exact G_round ((some ⟨ab, ao, none⟩, c1, x :: l2), (some ⟨bb, (if d1 = 1 then bo else bo + 1 * 3), none⟩, d1 - 1, q2), (A35, c35, w ++ [y])) ⟨⟨f1, f2, List.pairwise_cons.2 f3⟩, ⟨k1.drop (k := 1) (c := d1) (by omega) k2, by simp only; omega, k3.2⟩, by
          refine List.Perm.trans ?_ hp
          simp only [List.append_assoc]
          refine List.Perm.append_left w ?_
          exact (List.perm_middle (l₁ := x :: l2)).symm, by
          simp only
          unfold SrtO
          rw [List.pairwise_append]
          exact ⟨so, by simp, fun a ha b hb => by simp at hb; subst hb; exact hle a ha _ (by simp)⟩, by
          simp only
          intro a ha b hb
          rcases List.mem_append.1 ha with ha | ha
          · exact hle a ha b (by simp at hb ⊢; rcases hb with h | h | h <;> simp [h])
          · simp at ha; subst ha
            rcases List.mem_append.1 hb with hb | hb
            · rcases List.mem_cons.1 hb with rfl | hb
              · exact o.asym hyx
              · exact o.le_tr (o.asym hyx) (f3.1 b hb)
            · exact k3.1 b hb, fun _ => hn35 (by omega)⟩ (by simp only [List.length_cons]; omega) ⟨rfl, rfl, rfl, by rw [List.length_append]; rfl, trivial⟩ (by
          have e5 : flat (w ++ [y]) = flat w ++ [.int .i64 y.id, .int .i64 y.x, .int .i64 y.y] := (flat_snoc w y).symm
          simp only [List.length_append, List.length_singleton, e5]
          exact (by (repeat first | exact en_refl | (apply en_blk; focus ((repeat' first | exact Pick.here | apply Pick.skip | apply Pick.app); done); focus rfl) | (apply en_own; focus ((repeat' first | exact Pick.here | apply Pick.skip | apply Pick.app); done); focus rfl) | (apply en_pick; focus ((repeat' first | exact Pick.here | apply Pick.skip | apply Pick.app); done)) | apply en_drop | apply en_app) <;> fail))
    | false =>
      (repeat first | refine G_seq ?_ | refine G_skip ?_ | refine G_endblk ?_ | refine G_block ?_ | refine G_exit rfl ?_)
      refine G_cond_f rfl rfl ?_
      (repeat first | refine G_seq ?_ | refine G_skip ?_ | refine G_endblk ?_ | refine G_block ?_ | refine G_exit rfl ?_)
      refine G_drawE 0 (.q 0 (.q 1 (.q 2 (.q 3 (.q 6 (.q 7 (.e 4 (.e 5 (.q 8 (.q 9 .nil)))))))))) (by kernel_rfl) (by kernel_rfl) ?_
      refine RS_m retB_noPanic rfl rfl rfl rfl (ev_move rfl) ?_
      refine RS_m retB_noPanic rfl rfl rfl rfl (ev_move rfl) ?_
      (first | refine RS_m retB_noPanic rfl rfl rfl rfl (ev_indexAddrN rfl rfl (by first | omega | (simp; done) | (simp; omega))) ?_ | refine RS_m retB_noPanic rfl rfl rfl rfl (ev_indexAddr rfl rfl (by first | omega | (simp; done) | (simp; omega)) (by first | omega | (simp; done) | (simp; omega))) ?_)
      refine RS_q retB_noPanic rfl rfl rfl rfl (ev_loadN rfl (by repeat' first | exact LdN.blk rfl | assumption | apply LdN.skip | apply LdN.app)) ?_
      refine RS_m retB_noPanic rfl rfl rfl rfl (ev_move rfl) ?_
      refine RS_q retB_noPanic rfl rfl rfl rfl (ev_sliceL rfl rfl (by first | omega | (simp; done) | (simp; omega)) (by first | omega | (simp; done) | (simp; omega))) ?_
      refine RS_e (RE_eff rfl rfl rfl (eff_buildSlice1 (by rfl) rfl rfl) ?_); rintro _ _ ⟨b42, rfl, rfl⟩; refine ⟨_, (by first | ((repeat first | exact fun _ s => s | apply en_keep | apply en_drop | apply en_app) <;> fail) | ((repeat first | exact en_refl | (apply en_blk; focus ((repeat' first | exact Pick.here | apply Pick.skip | apply Pick.app); done); focus rfl) | (apply en_own; focus ((repeat' first | exact Pick.here | apply Pick.skip | apply Pick.app); done); focus rfl) | (apply en_pick; focus ((repeat' first | exact Pick.here | apply Pick.skip | apply Pick.app); done)) | apply en_drop | apply en_app) <;> fail)), fun _ s => s, ?_⟩
      refine RS_e (RE_eff rfl rfl rfl (eff_append rfl rfl (by repeat' first | exact Pick.here | apply Pick.skip) (by repeat' first | exact Rc.blk rfl | assumption | apply Rc.skip) (one_all rfl) (by rfl) (by decide) (by first | omega | (simp; done) | (simp; omega)) (by first | omega | (simp; done) | (simp; omega))) ?_); rintro _ _ ⟨A43, c43, rfl, hc43, hm43, hn43, rfl⟩; refine ⟨_, (by first | ((repeat first | exact fun _ s => s | apply en_keep | apply en_drop | apply en_app) <;> fail) | ((repeat first | exact en_refl | (apply en_blk; focus ((repeat' first | exact Pick.here | apply Pick.skip | apply Pick.app); done); focus rfl) | (apply en_own; focus ((repeat' first | exact Pick.here | apply Pick.skip | apply Pick.app); done); focus rfl) | (apply en_pick; focus ((repeat' first | exact Pick.here | apply Pick.skip | apply Pick.app); done)) | apply en_drop | apply en_app) <;> fail)), fun _ s => s, ?_⟩
      refine RS_m retB_noPanic rfl rfl rfl rfl (ev_assign rfl) ?_
      refine RS_m retB_noPanic rfl rfl rfl rfl (ev_assign rfl) ?_
      refine RS_nil ?_
      (repeat first | refine G_seq ?_ | refine G_skip ?_ | refine G_endblk ?_ | refine G_block ?_ | refine G_exit rfl ?_)
      exact G_round ((some ⟨ab, (if c1 = 1 then ao else ao + 1 * 3), none⟩, c1 - 1, l2), (some ⟨bb, bo, none⟩, d1, y :: q2), (A43, c43, w ++ [x])) ⟨⟨f1.drop (k := 1) (c := c1) (by omega) f2, by simp only; omega, f3.2⟩, ⟨k1, k2, List.pairwise_cons.2 k3⟩, by
          refine List.Perm.trans ?_ hp
          simp only [List.append_assoc]
          exact .refl _, by
          simp only
          unfold SrtO
          rw [List.pairwise_append]
          exact ⟨so, by simp, fun a ha b hb => by simp at hb; subst hb; exact hle a ha _ (by simp)⟩, by
          simp only
          intro a ha b hb
          rcases List.mem_append.1 ha with ha | ha
          · exact hle a ha b (by simp at hb ⊢; rcases hb with h | h | h <;> simp [h])
          · simp at ha; subst ha
            rcases List.mem_append.1 hb with hb | hb
            · exact f3.1 b hb
            · rcases List.mem_cons.1 hb with rfl | hb
              · exact hyx
              · exact o.le_tr hyx (k3.1 b hb), fun _ => hn43 (by omega)⟩ (by simp only [List.length_cons]; omega) ⟨rfl, rfl, rfl, by rw [List.length_append]; rfl, trivial⟩ (by
          have e5 : flat (w ++ [x]) = flat w ++ [.int .i64 x.id, .int .i64 x.x, .int .i64 x.y] := (flat_snoc w x).symm
          simp only [List.length_append, List.length_singleton, e5]
          exact (by (repeat first | exact en_refl | (apply en_blk; focus ((repeat' first | exact Pick.here | apply Pick.skip | apply Pick.app); done); focus rfl) | (apply en_own; focus ((repeat' first | exact Pick.here | apply Pick.skip | apply Pick.app); done); focus rfl) | (apply en_pick; focus ((repeat' first | exact Pick.here | apply Pick.skip | apply Pick.app); done)) | apply en_drop | apply en_app) <;> fail))
  · have key : w ++ l1 ++ q1 = srtO ls (l ++ q) := by
      rw [List.append_assoc]
      refine srtO_eq o (List.pairwise_append.2 ⟨so, ?_, fun a ha b hb => hle a ha b hb⟩) hp
      rcases Nat.eq_zero_or_pos l1.length with h0 | h0
      · rw [List.eq_nil_of_length_eq_zero h0]; exact k3
      · rw [List.eq_nil_of_length_eq_zero (by omega : q1.length = 0), List.append_nil]; exact f3
    have klen : (srtO ls (l ++ q)).length = w.length + l1.length + q1.length := by rw [← key]; simp; omega
    have kfl : flat (srtO ls (l ++ q)) = flat w ++ flat l1 ++ flat q1 := by rw [← key]; simp [flat_append]
    rcases Nat.eq_zero_or_pos l1.length with h0 | h0
    · (repeat first | refine G_seq ?_ | refine G_skip ?_ | refine G_endblk ?_ | refine G_block ?_ | refine G_exit rfl ?_)
      refine G_region ?_
      refine GO_q rfl rfl (ev_move rfl) ?_
      refine GO_q rfl rfl (ev_len rfl) ?_
      refine GO_q rfl rfl (ev_gtr rfl rfl) ?_
      refine GO_q rfl rfl (ev_move rfl) ?_
      refine GO_no rfl rfl rfl (decide_eq_false (by omega)) ?_
      refine GO_no rfl rfl rfl (decide_eq_false (by omega)) ?_
      refine GO_no rfl rfl rfl (decide_eq_false (by omega)) ?_
      refine GO_q rfl rfl (ev_pick_f rfl (decide_eq_false (by omega)) rfl) ?_
      refine GO_nil ?_
      (repeat first | refine G_seq ?_ | refine G_skip ?_ | refine G_endblk ?_ | refine G_block ?_ | refine G_exit rfl ?_)
      refine G_cond_f rfl rfl ?_
      (repeat first | refine G_seq ?_ | refine G_skip ?_ | refine G_endblk ?_ | refine G_block ?_ | refine G_exit rfl ?_)
      refine G_region ?_
      refine GO_q rfl rfl (ev_move rfl) ?_
      refine GO_q rfl rfl (ev_move rfl) ?_
      refine GO_eff rfl rfl (eff_append rfl rfl (by repeat' first | exact Pick.here | apply Pick.skip) ((by repeat' first | assumption | apply Rc.skip)) ((flat_one _)) (by rfl) (by decide) (by first | omega | (simp; done) | (simp; omega)) (by first | omega | (simp; done) | (simp; omega))) ?_; rintro _ _ ⟨A48, c48, rfl, hc48, hm48, hn48, rfl⟩
      refine GO_q rfl rfl (ev_move rfl) ?_
      refine GO_eff rfl rfl (eff_append rfl rfl (by repeat' first | exact Pick.here | apply Pick.skip) ((by repeat' first | assumption | apply Rc.skip)) ((flat_one _)) (by rfl) (by decide) (by first | omega | (simp; done) | (simp; omega)) (by first | omega | (simp; done) | (simp; omega))) ?_; rintro _ _ ⟨A50, c50, rfl, hc50, hm50, hn50, rfl⟩
      refine GO_q rfl rfl (ev_assign rfl) ?_
      refine GO_nil ?_
      (repeat first | refine G_seq ?_ | refine G_skip ?_ | refine G_endblk ?_ | refine G_block ?_ | refine G_exit rfl ?_)
      refine G_ret (L' := own 58 3 A50 (srtO ls (l ++ q)).length c50 (flat (srtO ls (l ++ q))) :: L) rfl (.tmp rfl .nil) ?_ ⟨A50, c50, by rw [klen]; rfl, by rw [klen]; exact hn50, rfl⟩
      rw [klen, kfl]
      exact (by (repeat first | exact en_refl | (apply en_blk; focus ((repeat' first | exact Pick.here | apply Pick.skip | apply Pick.app); done); focus rfl) | (apply en_own; focus ((repeat' first | exact Pick.here | apply Pick.skip | apply Pick.app); done); focus rfl) | (apply en_pick; focus ((repeat' first | exact Pick.here | apply Pick.skip | apply Pick.app); done)) | apply en_drop | apply en_app) <;> fail)
    · (repeat first | refine G_seq ?_ | refine G_skip ?_ | refine G_endblk ?_ | refine G_block ?_ | refine G_exit rfl ?_)
      refine G_region ?_
      refine GO_q rfl rfl (ev_move rfl) ?_
      refine GO_q rfl rfl (ev_len rfl) ?_
      refine GO_q rfl rfl (ev_gtr rfl rfl) ?_
      refine GO_q rfl rfl (ev_move rfl) ?_
      refine GO_yes rfl rfl rfl (decide_eq_true (by omega)) ?_
      refine GO_q rfl rfl (ev_move rfl) ?_
      refine GO_yes rfl rfl rfl (decide_eq_true (by omega)) ?_
      refine GO_q rfl rfl (ev_len rfl) ?_
      refine GO_yes rfl rfl rfl (decide_eq_true (by omega)) ?_
      refine GO_q rfl rfl (ev_gtr rfl rfl) ?_
      refine GO_q rfl rfl (ev_pick_t rfl (decide_eq_true (by omega)) rfl) ?_
      refine GO_nil ?_
      (repeat first | refine G_seq ?_ | refine G_skip ?_ | refine G_endblk ?_ | refine G_block ?_ | refine G_exit rfl ?_)
      refine G_cond_f rfl (decide_eq_false (by omega)) ?_
      (repeat first | refine G_seq ?_ | refine G_skip ?_ | refine G_endblk ?_ | refine G_block ?_ | refine G_exit rfl ?_)
      refine G_region ?_
      refine GO_q rfl rfl (ev_move rfl) ?_
      refine GO_q rfl rfl (ev_move rfl) ?_
      refine GO_eff rfl rfl (eff_append rfl rfl (by repeat' first | exact Pick.here | apply Pick.skip) ((by repeat' first | assumption | apply Rc.skip)) ((flat_one _)) (by rfl) (by decide) (by first | omega | (simp; done) | (simp; omega)) (by first | omega | (simp; done) | (simp; omega))) ?_; rintro _ _ ⟨A48, c48, rfl, hc48, hm48, hn48, rfl⟩
      refine GO_q rfl rfl (ev_move rfl) ?_
      refine GO_eff rfl rfl (eff_append rfl rfl (by repeat' first | exact Pick.here | apply Pick.skip) ((by repeat' first | assumption | apply Rc.skip)) ((flat_one _)) (by rfl) (by decide) (by first | omega | (simp; done) | (simp; omega)) (by first | omega | (simp; done) | (simp; omega))) ?_; rintro _ _ ⟨A50, c50, rfl, hc50, hm50, hn50, rfl⟩
      refine GO_q rfl rfl (ev_assign rfl) ?_
      refine GO_nil ?_
      (repeat first | refine G_seq ?_ | refine G_skip ?_ | refine G_endblk ?_ | refine G_block ?_ | refine G_exit rfl ?_)
      refine G_ret (L' := own 58 3 A50 (srtO ls (l ++ q)).length c50 (flat (srtO ls (l ++ q))) :: L) rfl (.tmp rfl .nil) ?_ ⟨A50, c50, by rw [klen]; rfl, by rw [klen]; exact hn50, rfl⟩
      rw [klen, kfl]
      exact (by (repeat first | exact en_refl | (apply en_blk; focus ((repeat' first | exact Pick.here | apply Pick.skip | apply Pick.app); done); focus rfl) | (apply en_own; focus ((repeat' first | exact Pick.here | apply Pick.skip | apply Pick.app); done); focus rfl) | (apply en_pick; focus ((repeat' first | exact Pick.here | apply Pick.skip | apply Pick.app); done)) | apply en_drop | apply en_app) <;> fail)
theorem sortO_ctr : ∀ (N : Nat) (A : Option Addr) (n c : Nat) (l : List Pt) (L : List HP) (_ : n ≤ N) (_ : Rd L A n l) (_ : n ≤ 1000000) (_ : n ≤ c),
    Ctr Tryz.prog 133 #[.slice A n c, .func (.func f) #[] #[]] L fun v L' => Made 58 (srtO ls l) L v L' := by
  intro N
  induction N with
  | zero =>
    intro A n c l L h0 hl hn hc
    refine Ctr_of (fn := Tryz.f133) (n := 27) Tryz.func133 rfl rfl rfl ?_
    intro g F
    (repeat first | refine G_seq ?_ | refine G_skip ?_ | refine G_endblk ?_ | refine G_block ?_ | refine G_exit rfl ?_)
    refine G_region ?_
    refine GO_q rfl rfl (ev_assign rfl) ?_
    refine GO_nil ?_
    (repeat first | refine G_seq ?_ | refine G_skip ?_ | refine G_endblk ?_ | refine G_block ?_ | refine G_exit rfl ?_)
    refine G_region ?_
    refine GO_q rfl rfl (ev_move rfl) ?_
    refine GO_q rfl rfl (ev_len rfl) ?_
    refine GO_q rfl rfl (ev_leq rfl rfl) ?_
    refine GO_nil ?_
    (repeat first | refine G_seq ?_ | refine G_skip ?_ | refine G_endblk ?_ | refine G_block ?_ | refine G_exit rfl ?_)
    refine G_cond_t rfl (decide_eq_true (by omega)) ?_
    (repeat first | refine G_seq ?_ | refine G_skip ?_ | refine G_endblk ?_ | refine G_block ?_ | refine G_exit rfl ?_)
    refine G_region ?_
    refine GO_q rfl rfl (ev_move rfl) ?_
    refine GO_q rfl rfl (ev_move rfl) ?_
    refine GO_eff rfl rfl (eff_call rfl (byO_ctr o hf A n c l _ (by repeat' first | exact Rc.blk rfl | assumption | apply Rd.skip | apply Rd.app) hn)) ?_; rintro _ _ ⟨A9, c9, rfl, h9, rfl⟩
    refine GO_q rfl rfl (ev_assign rfl) ?_
    refine GO_nil ?_
    (repeat first | refine G_seq ?_ | refine G_skip ?_ | refine G_endblk ?_ | refine G_block ?_ | refine G_exit rfl ?_)
    exact G_ret (L' := own 58 3 A9 (srtO ls l).length c9 (flat (srtO ls l)) :: L) rfl (.tmp rfl .nil) (by (repeat first | exact en_refl | (apply en_blk; focus ((repeat' first | exact Pick.here | apply Pick.skip | apply Pick.app); done); focus rfl) | (apply en_own; focus ((repeat' first | exact Pick.here | apply Pick.skip | apply Pick.app); done); focus rfl) | (apply en_pick; focus ((repeat' first | exact Pick.here | apply Pick.skip | apply Pick.app); done)) | apply en_drop | apply en_app) <;> fail) ⟨A9, c9, rfl, h9, rfl⟩
  | succ N ih =>
    intro A n c l L h0 hl hn hc
    have h1 : l.length = n := hl.len (by decide)
    refine Ctr_of (fn := Tryz.f133) (n := 27) Tryz.func133 rfl rfl rfl ?_
    intro g F
    (repeat first | refine G_seq ?_ | refine G_skip ?_ | refine G_endblk ?_ | refine G_block ?_ | refine G_exit rfl ?_)
    refine G_region ?_
    refine GO_q rfl rfl (ev_assign rfl) ?_
    refine GO_nil ?_
    (repeat first | refine G_seq ?_ | refine G_skip ?_ | refine G_endblk ?_ | refine G_block ?_ | refine G_exit rfl ?_)
    refine G_region ?_
    refine GO_q rfl rfl (ev_move rfl) ?_
    refine GO_q rfl rfl (ev_len rfl) ?_
    refine GO_q rfl rfl (ev_leq rfl rfl) ?_
    refine GO_nil ?_
    (repeat first | refine G_seq ?_ | refine G_skip ?_ | refine G_endblk ?_ | refine G_block ?_ | refine G_exit rfl ?_)
    refine G_cond rfl (fun c1 => ?_) (fun c1 => ?_)
    · (repeat first | refine G_seq ?_ | refine G_skip ?_ | refine G_endblk ?_ | refine G_block ?_ | refine G_exit rfl ?_)
      refine G_region ?_
      refine GO_q rfl rfl (ev_move rfl) ?_
      refine GO_q rfl rfl (ev_move rfl) ?_
      refine GO_eff rfl rfl (eff_call rfl (byO_ctr o hf A n c l _ (by repeat' first | exact Rc.blk rfl | assumption | apply Rd.skip | apply Rd.app) hn)) ?_; rintro _ _ ⟨A9, c9, rfl, h9, rfl⟩
      refine GO_q rfl rfl (ev_assign rfl) ?_
      refine GO_nil ?_
      (repeat first | refine G_seq ?_ | refine G_skip ?_ | refine G_endblk ?_ | refine G_block ?_ | refine G_exit rfl ?_)
      exact G_ret (L' := own 58 3 A9 (srtO ls l).length c9 (flat (srtO ls l)) :: L) rfl (.tmp rfl .nil) (by (repeat first | exact en_refl | (apply en_blk; focus ((repeat' first | exact Pick.here | apply Pick.skip | apply Pick.app); done); focus rfl) | (apply en_own; focus ((repeat' first | exact Pick.here | apply Pick.skip | apply Pick.app); done); focus rfl) | (apply en_pick; focus ((repeat' first | exact Pick.here | apply Pick.skip | apply Pick.app); done)) | apply en_drop | apply en_app) <;> fail) ⟨A9, c9, rfl, h9, rfl⟩
    · obtain ⟨b, o', rfl, _⟩ := hl.at_ (by omega)
      have e2 : srtO ls (srtO ls (l.take (n / 2)) ++ srtO ls (l.drop (n / 2))) = srtO ls l := by rw [srtO_append o, List.take_append_drop]
      have hT : ∀ X, Rd (X ++ L) (some ⟨b, o', none⟩) (n / 2) (l.take (n / 2)) := fun X => Rd.app (hl.take (by omega))
      have hD : ∀ X, Rd (X ++ L) (some ⟨b, (if c = n / 2 then o' else o' + (n / 2) * 3), none⟩) (n - n / 2) (l.drop (n / 2)) := fun X => Rd.app (hl.drop (k := n / 2) (c := c) (by omega) hc)
      (repeat first | refine G_seq ?_ | refine G_skip ?_ | refine G_endblk ?_ | refine G_block ?_ | refine G_exit rfl ?_)
      refine G_region ?_
      refine GO_q rfl rfl (ev_move rfl) ?_
      refine GO_q rfl rfl (ev_len rfl) ?_
      (first | refine GO_q rfl rfl (ev_quoN (q := 2) rfl rfl (by first | omega | (simp; done) | (simp; omega)) (by first | omega | (simp; done) | (simp; omega))) ?_ | refine GO_q rfl rfl (ev_quo rfl rfl (by first | omega | (simp; done) | (simp; omega)) (by first | omega | (simp; done) | (simp; omega)) (by first | omega | (simp; done) | (simp; omega))) ?_)
      refine GO_q rfl rfl (ev_assign rfl) ?_
      refine GO_nil ?_
      (repeat first | refine G_seq ?_ | refine G_skip ?_ | refine G_endblk ?_ | refine G_block ?_ | refine G_exit rfl ?_)
      refine G_draw (.q 0 (.q 1 (.q 2 (.q 3 (.q 5 (.q 6 (.q 7 (.q 8 (.q 10 (.e 4 (.e 9 (.e 11 (.q 12 .nil))))))))))))) (by kernel_rfl) (by kernel_rfl) ?_
      refine RS_m retB_noPanic rfl rfl rfl rfl (ev_move rfl) ?_
      refine RS_m retB_noPanic rfl rfl rfl rfl (ev_move rfl) ?_
      refine RS_q retB_noPanic rfl rfl rfl rfl (ev_sliceH rfl rfl (by first | omega | (simp; done) | (simp; omega))) ?_
      refine RS_m retB_noPanic rfl rfl rfl rfl (ev_move rfl) ?_
      refine RS_m retB_noPanic rfl rfl rfl rfl (ev_move rfl) ?_
      refine RS_m retB_noPanic rfl rfl rfl rfl (ev_move rfl) ?_
      refine RS_q retB_noPanic rfl rfl rfl rfl (ev_sliceL rfl rfl (by first | omega | (simp; done) | (simp; omega)) (by first | omega | (simp; done) | (simp; omega))) ?_
      refine RS_m retB_noPanic rfl rfl rfl rfl (ev_move rfl) ?_
      refine RS_m retB_noPanic rfl rfl rfl rfl (ev_move rfl) ?_
      refine RS_e (RE_eff rfl rfl rfl (eff_call rfl ((ih (some ⟨b, o', none⟩) (n / 2) c (l.take (n / 2)) _ (by omega) (hT [F]) (by omega) (by omega)).made)) ?_); rintro _ _ ⟨A1, c1', rfl, u1, v1, x1, rfl⟩; refine ⟨_, fun _ s => s, (by first | ((repeat first | exact fun _ s => s | apply en_keep | apply en_drop | apply en_app) <;> fail) | ((repeat first | exact en_refl | (apply en_blk; focus ((repeat' first | exact Pick.here | apply Pick.skip | apply Pick.app); done); focus rfl) | (apply en_own; focus ((repeat' first | exact Pick.here | apply Pick.skip | apply Pick.app); done); focus rfl) | (apply en_pick; focus ((repeat' first | exact Pick.here | apply Pick.skip | apply Pick.app); done)) | apply en_drop | apply en_app) <;> fail)), ?_⟩
      refine RS_e (RE_eff rfl rfl rfl (eff_call rfl ((ih (some ⟨b, (if c = n / 2 then o' else o' + (n / 2) * 3), none⟩) (n - n / 2) (c - n / 2) (l.drop (n / 2)) _ (by omega) (hD [own 58 3 A1 (srtO ls (l.take (n / 2))).length c1' (flat (srtO ls (l.take (n / 2)))), F]) (by omega) (by omega)).made)) ?_); rintro _ _ ⟨A2, c2', rfl, u2, v2, x2, rfl⟩; refine ⟨_, fun _ s => s, (by first | ((repeat first | exact fun _ s => s | apply en_keep | apply en_drop | apply en_app) <;> fail) | ((repeat first | exact en_refl | (apply en_blk; focus ((repeat' first | exact Pick.here | apply Pick.skip | apply Pick.app); done); focus rfl) | (apply en_own; focus ((repeat' first | exact Pick.here | apply Pick.skip | apply Pick.app); done); focus rfl) | (apply en_pick; focus ((repeat' first | exact Pick.here | apply Pick.skip | apply Pick.app); done)) | apply en_drop | apply en_app) <;> fail)), ?_⟩
      refine RS_e (RE_eff rfl rfl rfl (eff_call rfl (mergeO_ctr o hf A1 A2 _ _ c1' c2' (srtO ls (l.take (n / 2))) (srtO ls (l.drop (n / 2))) _ (Rd.skip (Rc.own (flat_length _) u1)) (Rc.own (flat_length _) u2) (by rw [srtO_length, List.length_take]; omega) (by rw [srtO_length, List.length_drop]; omega) v1 v2 (srtO_sorted o _) (srtO_sorted o _))) ?_); rintro _ _ ⟨A3, c3', rfl, u3, rfl⟩; refine ⟨_, fun _ s => s, (by first | ((repeat first | exact fun _ s => s | apply en_keep | apply en_drop | apply en_app) <;> fail) | ((repeat first | exact en_refl | (apply en_blk; focus ((repeat' first | exact Pick.here | apply Pick.skip | apply Pick.app); done); focus rfl) | (apply en_own; focus ((repeat' first | exact Pick.here | apply Pick.skip | apply Pick.app); done); focus rfl) | (apply en_pick; focus ((repeat' first | exact Pick.here | apply Pick.skip | apply Pick.app); done)) | apply en_drop | apply en_app) <;> fail)), ?_⟩
      refine RS_m retB_noPanic rfl rfl rfl rfl (ev_assign rfl) ?_
      refine RS_nil ?_
      rw [e2] at u3
      rw [e2]
      (repeat first | refine G_seq ?_ | refine G_skip ?_ | refine G_endblk ?_ | refine G_block ?_ | refine G_exit rfl ?_)
      exact G_ret (L' := own 58 3 A3 (srtO ls l).length c3' (flat (srtO ls l)) :: L) rfl (.tmp rfl .nil) (by (repeat first | exact en_refl | (apply en_blk; focus ((repeat' first | exact Pick.here | apply Pick.skip | apply Pick.app); done); focus rfl) | (apply en_own; focus ((repeat' first | exact Pick.here | apply Pick.skip | apply Pick.app); done); focus rfl) | (apply en_pick; focus ((repeat' first | exact Pick.here | apply Pick.skip | apply Pick.app); done)) | apply en_drop | apply en_app) <;> fail) ⟨A3, c3', rfl, u3, rfl⟩
theorem SortO_ctr (A : Option Addr) (n c : Nat) (l : List Pt) (L : List HP) (hl : Rd L A n l) (hn : n ≤ 1000000) (hc : n ≤ c) :
    Ctr Tryz.prog 131 #[.slice A n c, .func (.func f) #[] #[]] L fun v L' => Made 58 (srtO ls l) L v L' := by
  refine Ctr_of (fn := Tryz.f131) (n := 8) Tryz.func131 rfl rfl rfl ?_
  intro g F
  (repeat first | refine G_seq ?_ | refine G_skip ?_ | refine G_endblk ?_ | refine G_block ?_ | refine G_exit rfl ?_)
  refine G_region ?_
  refine GO_q rfl rfl (ev_assign rfl) ?_
  refine GO_nil ?_
  (repeat first | refine G_seq ?_ | refine G_skip ?_ | refine G_endblk ?_ | refine G_block ?_ | refine G_exit rfl ?_)
  refine G_region ?_
  refine GO_q rfl rfl (ev_move rfl) ?_
  refine GO_q rfl rfl (ev_move rfl) ?_
  refine GO_eff rfl rfl (eff_call rfl (sortO_ctr o hf n A n c l _ (Nat.le_refl _) (by repeat' first | exact Rc.blk rfl | assumption | apply Rd.skip | apply Rd.app) hn hc)) ?_; rintro _ _ ⟨A9, c9, rfl, h9, rfl⟩
  refine GO_q rfl rfl (ev_assign rfl) ?_
  refine GO_nil ?_
  (repeat first | refine G_seq ?_ | refine G_skip ?_ | refine G_endblk ?_ | refine G_block ?_ | refine G_exit rfl ?_)
  exact G_ret (L' := own 58 3 A9 (srtO ls l).length c9 (flat (srtO ls l)) :: L) rfl (.tmp rfl .nil) (by (repeat first | exact en_refl | (apply en_blk; focus ((repeat' first | exact Pick.here | apply Pick.skip | apply Pick.app); done); focus rfl) | (apply en_own; focus ((repeat' first | exact Pick.here | apply Pick.skip | apply Pick.app); done); focus rfl) | (apply en_pick; focus ((repeat' first | exact Pick.here | apply Pick.skip | apply Pick.app); done)) | apply en_drop | apply en_app) <;> fail) ⟨A9, c9, rfl, h9, rfl⟩
end
end Go.Proofs.YtjgdhkilnalejaaGreat
/- A struct is equal to itself, whatever numbers, Bools and pointers it holds. No program stands in this text. -/
namespace Go.Proofs.YtjgdhkilnalejaaGreat
open Go.RowKit
set_option linter.unusedSimpArgs false
set_option linter.unusedVariables false
inductive Ck where
  | i
  | b
  | p
def ckB : Value → Ck → Bool
  | .int .i64 _, .i => true
  | .bool _, .b => true
  | .pointer _, .p => true
  | _, _ => false
def tyB : List Value → List Ck → Bool
  | [], [] => true
  | v :: vs, c :: cs => ckB v c && tyB vs cs
  | _, _ => false
def oneCk : List Ck → Ck → Bool
  | [.i], .i => true
  | [.b], .b => true
  | [.p], .p => true
  | _, _ => false
/-- What a type's cells hold. -/
def reflT (P : Program) : Nat → TypeId → List Ck → Bool
  | 0, _, _ => false
  | k + 1, T, ks => match P.underlying T with
    | some (.int _) => oneB P T && oneCk ks .i
    | some .bool => oneB P T && oneCk ks .b
    | some (.pointer e) => oneB P T && oneCk ks .p && (P.info? e).isSome && !Nat.beq (P.cellsOf e) 0
    | some (.struct fs) => aggB P T ks.length && !P.stoodInHeld T && fs.toList.all fun f => Nat.ble (f.offset + P.cellsOf f.type) ks.length && reflT P k f.type ((ks.drop f.offset).take (P.cellsOf f.type))
    | some (.array n e) => aggB P T ks.length && (P.info? e).isSome && (List.range n).all fun j => Nat.ble (j * P.cellsOf e + P.cellsOf e) ks.length && reflT P k e ((ks.drop (j * P.cellsOf e)).take (P.cellsOf e))
    | _ => false
def aggT (P : Program) (T : TypeId) : Bool := match P.underlying T with
  | some (.struct _) => true
  | some (.array _ _) => true
  | _ => false
def valR (P : Program) (T : TypeId) (vs : List Value) : Value := if aggT P T then .agg vs.toArray else vs.headD undef
section
variable {P : Program}
def reflB (P : Program) (T : TypeId) (ks : List Ck) : Bool := aggT P T && reflT P 8 T ks && !P.eqGuardType P.depth T
class ReflT (P : Program) (T : TypeId) (ks : outParam (List Ck)) : Prop where
  h : reflB P T ks = true
variable {L : List HP} {σ : Env} {d : Option Nat} {ty T T' : TypeId} {pos : String} {aft : Array Edge} {gd : Option (Nat × Bool)} {x y : Operand}
end
end Go.Proofs.YtjgdhkilnalejaaGreat
/- A tree of points by two orders in turn: what lies in memory. -/
namespace Go.Proofs.YtjgdhkilnalejaaGreat
open Go.RowKit
set_option linter.unusedVariables false
set_option linter.unusedSimpArgs false
set_option maxRecDepth 100000

instance : ReflT Tryz.prog 83 [.i, .i, .i, .b, .p, .p, .i, .i, .i, .i, .i] := ⟨by kernel_rfl⟩
@[reducible] def Bx.v (b : Bx) : Value := .agg #[.int .i64 b.x1, .int .i64 b.x2, .int .i64 b.y1, .int .i64 b.y2]
@[reducible] def kcC (p : Pt) (g : Bool) (lo hi : Option Addr) (m : Nat) (x : Bx) : List Value := [.int .i64 p.id, .int .i64 p.x, .int .i64 p.y, .bool g, .pointer lo, .pointer hi, .int .i64 (m : Nat), .int .i64 x.x1, .int .i64 x.x2, .int .i64 x.y1, .int .i64 x.y2]
def ktH : KT → HP
  | .nil => fun _ => True
  | .node b p g m x lo hi => fun h => sat [blk b 83 (kcC p g lo.addr hi.addr m x), ktH lo, ktH hi] h
def KIn (L : List HP) : KT → Prop
  | .nil => True
  | .node b p g m x lo hi => LdN L b 0 11 (kcC p g lo.addr hi.addr m x) ∧ KIn L lo ∧ KIn L hi
theorem LdN.of {A : HP} {N L : List HP} {b o n : Nat} {vs : List Value} (f : ∀ h, A h → sat N h) (l : LdN N b o n vs) : LdN (A :: L) b o n vs := ⟨l.1, fun j v hj => (l.2 j v hj).of f⟩
theorem KIn.mono {L M : List HP} (f : ∀ h, sat M h → sat L h) : ∀ {x : KT}, KIn L x → KIn M x
  | .nil, _ => trivial
  | .node b p g m x lo hi, h => ⟨h.1.mono f, h.2.1.mono f, h.2.2.mono f⟩
theorem KIn.skip {X : HP} {L : List HP} {x : KT} (h : KIn L x) : KIn (X :: L) x := h.mono fun _ s => s.tail
theorem KIn.app {N L : List HP} {x : KT} (h : KIn L x) : KIn (N ++ L) x := by
  induction N with
  | nil => exact h
  | cons X N ih => exact ih.skip
theorem KIn.of {A : HP} {N L : List HP} (f : ∀ h, A h → sat N h) : ∀ {x : KT}, KIn N x → KIn (A :: L) x
  | .nil, _ => trivial
  | .node b p g m x lo hi, h => ⟨h.1.of f, h.2.1.of f, h.2.2.of f⟩
theorem ktH_in : ∀ (x : KT) (L : List HP), KIn (ktH x :: L) x
  | .nil, _ => trivial
  | .node b p g m x lo hi, L => KIn.of (N := [blk b 83 (kcC p g lo.addr hi.addr m x), ktH lo, ktH hi]) (fun _ h => h) ⟨LdN.blk rfl, (ktH_in lo _).skip, (ktH_in hi []).skip.skip⟩
section
variable {P : Program} {B : Exit → Act → World → Prop} {gl : Glob} {n : Nat} {K : List Kt} {σ : Env} {L M : List HP} {b : Nat} {p : Pt} {g : Bool} {m : Nat} {x : Bx} {lo hi : KT}
theorem Ctr.kt {f : FuncId} {args : Array Value} {post : Value → List HP → Prop} (C : Ctr P f args (blk b 83 (kcC p g lo.addr hi.addr m x) :: ktH lo :: ktH hi :: L) post) : Ctr P f args (ktH (.node b p g m x lo hi) :: L) post :=
  Ctr.open (ι := Unit) (Fa := fun _ => True) (N := fun _ => [blk b 83 (kcC p g lo.addr hi.addr m x), ktH lo, ktH hi]) (fun _ h => ⟨(), trivial, h⟩) fun _ _ => C
theorem en_kt (f : ∀ h, sat L h → sat (blk b 83 (kcC p g lo.addr hi.addr m x) :: ktH lo :: ktH hi :: M) h) : ∀ h, sat L h → sat (ktH (.node b p g m x lo hi) :: M) h := fun h s =>
  sat.fold (N := [blk b 83 (kcC p g lo.addr hi.addr m x), ktH lo, ktH hi]) (fun _ h => h) (f h s)
theorem en_ktn (f : ∀ h, sat L h → sat M h) : ∀ h, sat L h → sat (ktH .nil :: M) h := fun h s =>
  ⟨fun _ => none, h, fun _ => .inl rfl, fun _ _ e => (by cases e), hSub.refl _, trivial, f h s⟩
end
/-- Where the parts of a node lie. -/
structure KF (L : List HP) (b : Nat) (p : Pt) (g : Bool) (m : Nat) (x : Bx) (lo hi : KT) : Prop where
  f_p : LdN L b (0 + 0) 3 [.int .i64 p.id, .int .i64 p.x, .int .i64 p.y]
  f_g : Ld L ⟨b, 0 + 3, none⟩ (.bool g)
  f_lo : Ld L ⟨b, 0 + 4 + 0 * 1, none⟩ (.pointer lo.addr)
  f_hi : Ld L ⟨b, 0 + 4 + 1 * 1, none⟩ (.pointer hi.addr)
  f_k : LdN L b (0 + 4) 2 [.pointer lo.addr, .pointer hi.addr]
  f_m : Ld L ⟨b, 0 + 6, none⟩ (.int .i64 (m : Nat))
  f_x : LdN L b (0 + 7) 4 [.int .i64 x.x1, .int .i64 x.x2, .int .i64 x.y1, .int .i64 x.y2]
  f_id : Ld L ⟨b, 0 + 0 + 0, none⟩ (.int .i64 p.id)
  i_lo : KIn L lo
  i_hi : KIn L hi
theorem ldn_sub {L : List HP} {b o n k c : Nat} {vs ws : List Value} (h : LdN L b o n vs) (hl : ws.length = c) (hw : ∀ (j : Nat) (v : Value), ws[j]? = some v → vs[k + j]? = some v) : LdN L b (o + k) c ws := ⟨hl, fun j v hj => by
  have := h.2 (k + j) v (hw j v hj)
  rwa [← Nat.add_assoc] at this⟩
theorem KIn.f {L : List HP} {b : Nat} {p : Pt} {g : Bool} {m : Nat} {x : Bx} {lo hi : KT} (h : KIn L (.node b p g m x lo hi)) : KF L b p g m x lo hi :=
  ⟨ldn_sub h.1 rfl (fun j v hj => by match j with
      | 0 => exact hj
      | 1 => exact hj
      | 2 => exact hj
      | j + 3 => simp at hj), h.1.at_ (i := 3) rfl, h.1.at_ (i := 4) rfl, h.1.at_ (i := 5) rfl,
    ldn_sub h.1 rfl (fun j v hj => by match j with
      | 0 => exact hj
      | 1 => exact hj
      | j + 2 => simp at hj), h.1.at_ (i := 6) rfl,
    ldn_sub h.1 rfl (fun j v hj => by match j with
      | 0 => exact hj
      | 1 => exact hj
      | 2 => exact hj
      | 3 => exact hj
      | j + 4 => simp at hj), h.1.at_ (i := 0) rfl, h.2.1, h.2.2⟩
end Go.Proofs.YtjgdhkilnalejaaGreat
/- A stack of nodes: what lies in memory. -/
namespace Go.Proofs.YtjgdhkilnalejaaGreat
set_option linter.unusedVariables false
set_option linter.unusedSimpArgs false

instance encKT : Enc KT := ⟨1, fun x => [.pointer x.addr], fun _ => rfl, fun _ v h => by simp at h; subst h; rfl⟩
/-- A stack at a place. -/
def stkS (b : Nat) (most : Int) (l : List KT) : HP := fun h => ∃ x : Option Addr × Nat, (0 < l.length → ∃ b, x.1 = some ⟨b, 0, none⟩) ∧ sat [blk b 107 [.slice x.1 l.length x.2, .int .i64 most], own 33 1 x.1 l.length x.2 (flat l)] h
theorem stk_open {s : Nat} {most : Int} {l : List KT} {M : List HP} {hm : Hm} (h : sat (stkS s most l :: M) hm) : ∃ A c, (0 < l.length → ∃ b, A = some ⟨b, 0, none⟩) ∧ l.length ≤ c ∧ c ≤ maxLen ∧ sat (blk s 107 [.slice A l.length c, .int .i64 most] :: own 33 1 A l.length c (flat l) :: M) hm := by
  obtain ⟨h1, h2, d, s1, s2, ⟨⟨A, c⟩, hA, q⟩, t⟩ := h
  have q0 := own.facts (L := []) q.tail
  exact ⟨A, c, hA, q0.2.1, q0.2.2.1, sat.head (A := fun h => h = h1) (N := [blk s 107 [.slice A l.length c, .int .i64 most], own 33 1 A l.length c (flat l)]) (fun _ e => e ▸ q) ⟨h1, h2, d, s1, s2, rfl, t⟩⟩
theorem Ctr.stk {P : Program} {f : FuncId} {args : Array Value} {L : List HP} {b : Nat} {most : Int} {l : List KT} {post : Value → List HP → Prop}
    (C : ∀ A c, (0 < l.length → ∃ b, A = some ⟨b, 0, none⟩) → l.length ≤ c → c ≤ maxLen → Ctr P f args (blk b 107 [.slice A l.length c, .int .i64 most] :: own 33 1 A l.length c (flat l) :: L) post) : Ctr P f args (stkS b most l :: L) post := fun g F w hw => by
  obtain ⟨A, c, h1, h2, h3, h4⟩ := stk_open hw.s.swap
  exact C A c h1 h2 h3 g F w ⟨hw.g, h4.perm (List.perm_middle (l₁ := [_, _]))⟩
theorem en_stk {L M : List HP} {b c : Nat} {A : Option Addr} {most : Int} {l : List KT} (hA : 0 < l.length → ∃ b, A = some ⟨b, 0, none⟩) (f : ∀ h, sat L h → sat (blk b 107 [.slice A l.length c, .int .i64 most] :: own 33 1 A l.length c (flat l) :: M) h) : ∀ h, sat L h → sat (stkS b most l :: M) h := fun h s =>
  sat.fold (N := [_, _]) (fun h q => ⟨(A, c), hA, q⟩) (f h s)
theorem own_of1 {L : List HP} {b c : Nat} {T : TypeId} {u v : Value} {r : List Value} (k1 : (v :: u :: r).length = c * 1) (k2 : 2 ≤ c) (k3 : c ≤ maxLen) : ∀ h, sat (blk b T (u :: v :: r) :: L) h → sat (own T 1 (some ⟨b, 0, none⟩) 2 c [u, v] :: L) h := fun h s => by
  obtain ⟨h1, h2, d, s1, s2, q, z⟩ := s
  exact ⟨h1, h2, d, s1, s2, own.cls (n := 2) (c := c) (sz := 1) (cs := u :: v :: r) q k1 k2 k3, z⟩
theorem sw2 (u v : Value) (r : List Value) : setN (setN (u :: v :: r) (0 + 0 * 1) [v]) (0 + 1 * 1) [u] = v :: u :: r := by
  rw [setN_eq (u :: v :: r) _ _ (by simp), setN_eq _ _ _ (by simp)]
  simp
end Go.Proofs.YtjgdhkilnalejaaGreat
/- A stack of nodes. -/
namespace Go.Proofs.YtjgdhkilnalejaaGreat
attribute [local irreducible] sat
set_option linter.unusedVariables false
set_option linter.unusedSimpArgs false
set_option maxRecDepth 100000

theorem Catch_ctr {fid : FuncId} {c1 c2 : List Value} {L : List HP} {post : List HP → Prop} [H : CalT Tryz.prog fid] (h : Ctr Tryz.prog fid (c1 ++ [] ++ c2).toArray L fun v L' => post L') :
    Ctr Tryz.prog 55 #[.func (.func fid) c1.toArray c2.toArray] L fun v L' => v = .tuple #[.agg #[.int .i64 0, .int .i64 0], .bool false] ∧ post L' := by
  refine Ctr_of (fn := Tryz.f55) (n := 8) Tryz.func55 rfl rfl rfl ?_
  intro g F
  (repeat first | refine G_seq ?_ | refine G_skip ?_ | refine G_endblk ?_ | refine G_block ?_ | refine G_exit rfl ?_)
  refine G_region ?_
  refine GO_eff rfl rfl eff_alloc ?_; rintro _ _ ⟨b2, rfl, rfl⟩
  refine GO_q rfl rfl (ev_assign rfl) ?_
  refine GO_nil ?_
  (repeat first | refine G_seq ?_ | refine G_skip ?_ | refine G_endblk ?_ | refine G_block ?_ | refine G_exit rfl ?_)
  refine G_region ?_
  refine GO_q rfl rfl (ev_move rfl) ?_
  refine GO_eff rfl rfl (eff_call rfl (Ctr.frame [blk b2 96 [.int .i64 0, .int .i64 0], F] (catch_ctr h) (fun _ s => s))) ?_; rintro _ _ ⟨L1, ⟨rfl, hp⟩, rfl⟩
  refine GO_q rfl rfl (ev_extract rfl rfl) ?_
  refine GO_q rfl rfl (ev_extract rfl rfl) ?_
  refine GO_eff rfl rfl (eff_storeN rfl rfl rfl rfl (by repeat' first | exact Upd.here rfl | apply Upd.skip | apply Upd.app)) ?_; rintro _ _ ⟨rfl, rfl⟩
  refine GO_q rfl rfl (ev_assign rfl) ?_
  refine GO_nil ?_
  (repeat first | refine G_seq ?_ | refine G_skip ?_ | refine G_endblk ?_ | refine G_block ?_ | refine G_exit rfl ?_)
  exact G_ret (L' := L1) rfl (.cell rfl (loadN_run (by repeat' first | exact LdN.blk rfl | assumption | apply LdN.skip | apply LdN.app)) (.tmp rfl .nil)) (by (repeat first | exact fun _ s => s | apply en_keep | apply en_drop | apply en_app) <;> fail) ⟨rfl, hp⟩
theorem SNew_ctr (L : List HP) : Ctr Tryz.prog 50 #[.int .i64 65536] L fun v L' => ∃ b, v = .tuple #[.pointer (some ⟨b, 0, none⟩), .int .i64 0] ∧ L' = stkS b 65536 [] :: L := by
  refine Ctr_of (fn := Tryz.f50) (n := 13) Tryz.func50 rfl rfl rfl ?_
  intro g F
  (repeat first | refine G_seq ?_ | refine G_skip ?_ | refine G_endblk ?_ | refine G_block ?_ | refine G_exit rfl ?_)
  refine G_region ?_
  refine GO_q rfl rfl (ev_assign rfl) ?_
  refine GO_q rfl rfl (ev_assign rfl) ?_
  refine GO_nil ?_
  (repeat first | refine G_seq ?_ | refine G_skip ?_ | refine G_endblk ?_ | refine G_block ?_ | refine G_exit rfl ?_)
  refine G_region ?_
  refine GO_q rfl rfl (ev_move rfl) ?_
  (first | refine GO_q rfl rfl (ev_lssN (q := 1) rfl rfl) ?_ | refine GO_q rfl rfl (ev_lss rfl rfl) ?_)
  refine GO_q rfl rfl (ev_move rfl) ?_
  refine GO_yes rfl rfl rfl rfl ?_
  refine GO_q rfl rfl (ev_move rfl) ?_
  refine GO_yes rfl rfl rfl rfl ?_
  refine GO_q rfl rfl (ev_gtr rfl rfl) ?_
  refine GO_q rfl rfl (ev_pick_f rfl rfl rfl) ?_
  refine GO_nil ?_
  (repeat first | refine G_seq ?_ | refine G_skip ?_ | refine G_endblk ?_ | refine G_block ?_ | refine G_exit rfl ?_)
  refine G_cond_f rfl rfl ?_
  (repeat first | refine G_seq ?_ | refine G_skip ?_ | refine G_endblk ?_ | refine G_block ?_ | refine G_exit rfl ?_)
  refine G_region ?_
  refine GO_q rfl rfl (ev_move rfl) ?_
  refine GO_q rfl rfl (ev_build rfl rfl) ?_
  refine GO_eff rfl rfl (eff_box rfl) ?_; rintro _ _ ⟨b12, rfl, rfl⟩
  refine GO_q rfl rfl (ev_assign rfl) ?_
  refine GO_q rfl rfl (ev_assign rfl) ?_
  refine GO_nil ?_
  (repeat first | refine G_seq ?_ | refine G_skip ?_ | refine G_endblk ?_ | refine G_block ?_ | refine G_exit rfl ?_)
  refine G_heap (own.nil_ 33 1) ?_
  exact G_ret (L' := stkS b12 65536 [] :: L) rfl (.tmp rfl (.tmp rfl .nil)) (by (repeat first | exact en_refl | apply en_stk (A := none) (c := 0) (l := []) (fun h => absurd h (Nat.lt_irrefl 0)) | (apply en_blk; focus ((repeat' first | exact Pick.here | apply Pick.skip | apply Pick.app); done); focus rfl) | (apply en_own; focus ((repeat' first | exact Pick.here | apply Pick.skip | apply Pick.app); done); focus rfl) | (apply en_pick; focus ((repeat' first | exact Pick.here | apply Pick.skip | apply Pick.app); done)) | apply en_drop | apply en_app) <;> fail) ⟨b12, rfl, rfl⟩
theorem SLen_k_ctr (b : Nat) (l : List KT) (L : List HP) : Ctr Tryz.prog 39 #[.pointer (some ⟨b, 0, none⟩)] (stkS b 65536 l :: L) fun v L' => v = .int .i64 (l.length : Nat) ∧ L' = stkS b 65536 l :: L := by
  refine Ctr.stk fun A c h1 h2 h3 => ?_
  refine Ctr_of (fn := Tryz.f39) (n := 10) Tryz.func39 rfl rfl rfl ?_
  intro g F
  (repeat first | refine G_seq ?_ | refine G_skip ?_ | refine G_endblk ?_ | refine G_block ?_ | refine G_exit rfl ?_)
  refine G_region ?_
  refine GO_q rfl rfl (ev_assign rfl) ?_
  refine GO_nil ?_
  (repeat first | refine G_seq ?_ | refine G_skip ?_ | refine G_endblk ?_ | refine G_block ?_ | refine G_exit rfl ?_)
  refine G_region ?_
  refine GO_q rfl rfl (ev_move rfl) ?_
  (first | refine GO_q rfl rfl (ev_eqlNil rfl rfl) ?_ | refine GO_q rfl rfl (ev_eqlPtr rfl rfl) ?_)
  refine GO_nil ?_
  (repeat first | refine G_seq ?_ | refine G_skip ?_ | refine G_endblk ?_ | refine G_block ?_ | refine G_exit rfl ?_)
  refine G_cond_f rfl rfl ?_
  (repeat first | refine G_seq ?_ | refine G_skip ?_ | refine G_endblk ?_ | refine G_block ?_ | refine G_exit rfl ?_)
  refine G_region ?_
  refine GO_q rfl rfl (ev_move rfl) ?_
  (first | refine GO_q rfl rfl (ev_nilCheck rfl) ?_ | refine GO_q rfl rfl (ev_nilCheckF (by simp) rfl) ?_)
  refine GO_q rfl rfl (ev_fieldAddr rfl) ?_
  refine GO_q rfl rfl (ev_load rfl (by repeat' first | exact Ld.blk rfl | assumption | apply Ld.skip | apply Ld.app)) ?_
  refine GO_q rfl rfl (ev_len rfl) ?_
  refine GO_q rfl rfl (ev_assign rfl) ?_
  refine GO_nil ?_
  (repeat first | refine G_seq ?_ | refine G_skip ?_ | refine G_endblk ?_ | refine G_block ?_ | refine G_exit rfl ?_)
  exact G_ret (L' := stkS b 65536 l :: L) rfl (.tmp rfl .nil) (by (repeat first | exact en_refl | apply en_stk h1 | (apply en_blk; focus ((repeat' first | exact Pick.here | apply Pick.skip | apply Pick.app); done); focus rfl) | (apply en_own; focus ((repeat' first | exact Pick.here | apply Pick.skip | apply Pick.app); done); focus rfl) | (apply en_pick; focus ((repeat' first | exact Pick.here | apply Pick.skip | apply Pick.app); done)) | apply en_drop | apply en_app) <;> fail) ⟨rfl, rfl⟩
theorem stop_nil_ctr (b : Nat) (A : Option Addr) (c : Nat) (L : List HP) (h : LdN L b 0 2 [.slice A 0 c, .int .i64 65536]) : Ctr Tryz.prog 109 #[.pointer (some ⟨b, 0, none⟩)] L fun v L' => v = .tuple #[.pointer none, .bool false] ∧ L' = L := by
  have h1 : Ld L ⟨b, 0 + 0, none⟩ (.slice A 0 c) := h.at_ (i := 0) rfl
  refine Ctr_of (fn := Tryz.f109) (n := 27) Tryz.func109 rfl rfl rfl ?_
  intro g F
  (repeat first | refine G_seq ?_ | refine G_skip ?_ | refine G_endblk ?_ | refine G_block ?_ | refine G_exit rfl ?_)
  refine G_region ?_
  refine GO_q rfl rfl (ev_assign rfl) ?_
  refine GO_q rfl rfl (ev_assign rfl) ?_
  refine GO_nil ?_
  (repeat first | refine G_seq ?_ | refine G_skip ?_ | refine G_endblk ?_ | refine G_block ?_ | refine G_exit rfl ?_)
  refine G_region ?_
  refine GO_q rfl rfl (ev_move rfl) ?_
  (first | refine GO_q rfl rfl (ev_eqlNil rfl rfl) ?_ | refine GO_q rfl rfl (ev_eqlPtr rfl rfl) ?_)
  refine GO_q rfl rfl (ev_move rfl) ?_
  refine GO_yes rfl rfl rfl rfl ?_
  refine GO_q rfl rfl (ev_move rfl) ?_
  refine GO_yes rfl rfl rfl rfl ?_
  (first | refine GO_q rfl rfl (ev_nilCheck rfl) ?_ | refine GO_q rfl rfl (ev_nilCheckF (by simp) rfl) ?_)
  refine GO_yes rfl rfl rfl rfl ?_
  refine GO_q rfl rfl (ev_fieldAddr rfl) ?_
  refine GO_yes rfl rfl rfl rfl ?_
  refine GO_q rfl rfl (ev_load rfl (by repeat' first | exact Ld.blk rfl | assumption | apply Ld.skip | apply Ld.app)) ?_
  refine GO_yes rfl rfl rfl rfl ?_
  refine GO_q rfl rfl (ev_len rfl) ?_
  refine GO_yes rfl rfl rfl rfl ?_
  refine GO_q rfl rfl (ev_eql rfl rfl) ?_
  refine GO_q rfl rfl (ev_pick_f rfl rfl rfl) ?_
  refine GO_nil ?_
  (repeat first | refine G_seq ?_ | refine G_skip ?_ | refine G_endblk ?_ | refine G_block ?_ | refine G_exit rfl ?_)
  refine G_cond_t rfl rfl ?_
  (repeat first | refine G_seq ?_ | refine G_skip ?_ | refine G_endblk ?_ | refine G_block ?_ | refine G_exit rfl ?_)
  refine G_region ?_
  refine GO_q rfl rfl (ev_move rfl) ?_
  refine GO_q rfl rfl (ev_assign rfl) ?_
  refine GO_q rfl rfl (ev_assign rfl) ?_
  refine GO_nil ?_
  (repeat first | refine G_seq ?_ | refine G_skip ?_ | refine G_endblk ?_ | refine G_block ?_ | refine G_exit rfl ?_)
  refine G_ret rfl (.tmp rfl (.tmp rfl .nil)) (by (repeat first | exact fun _ s => s | apply en_keep | apply en_drop | apply en_app) <;> fail) ⟨rfl, rfl⟩
theorem stop_ctr (b : Nat) (A : Option Addr) (n c : Nat) (l : List KT) (x : KT) (L : List HP) (h : LdN L b 0 2 [.slice A n c, .int .i64 65536]) (hr : Rd L A n (l ++ [x])) (hn : n = l.length + 1) (hb : n ≤ 65536) : Ctr Tryz.prog 109 #[.pointer (some ⟨b, 0, none⟩)] L fun v L' => v = .tuple #[.pointer x.addr, .bool true] ∧ L' = L := by
  have h1 : Ld L ⟨b, 0 + 0, none⟩ (.slice A n c) := h.at_ (i := 0) rfl
  obtain ⟨lb, lo, rfl, hx⟩ := hr.at_ (by omega)
  have y1 : LdN L lb (lo + l.length * 1) 1 [.pointer x.addr] := hx l.length x (by simp)
  have y2 : Ld L ⟨lb, lo + (n - 1) * 1, none⟩ (.pointer x.addr) := by
    have := y1.at_ (i := 0) rfl
    rw [show n - 1 = l.length by omega]; exact this
  refine Ctr_of (fn := Tryz.f109) (n := 27) Tryz.func109 rfl rfl rfl ?_
  intro g F
  (repeat first | refine G_seq ?_ | refine G_skip ?_ | refine G_endblk ?_ | refine G_block ?_ | refine G_exit rfl ?_)
  refine G_region ?_
  refine GO_q rfl rfl (ev_assign rfl) ?_
  refine GO_q rfl rfl (ev_assign rfl) ?_
  refine GO_nil ?_
  (repeat first | refine G_seq ?_ | refine G_skip ?_ | refine G_endblk ?_ | refine G_block ?_ | refine G_exit rfl ?_)
  refine G_region ?_
  refine GO_q rfl rfl (ev_move rfl) ?_
  (first | refine GO_q rfl rfl (ev_eqlNil rfl rfl) ?_ | refine GO_q rfl rfl (ev_eqlPtr rfl rfl) ?_)
  refine GO_q rfl rfl (ev_move rfl) ?_
  refine GO_yes rfl rfl rfl rfl ?_
  refine GO_q rfl rfl (ev_move rfl) ?_
  refine GO_yes rfl rfl rfl rfl ?_
  (first | refine GO_q rfl rfl (ev_nilCheck rfl) ?_ | refine GO_q rfl rfl (ev_nilCheckF (by simp) rfl) ?_)
  refine GO_yes rfl rfl rfl rfl ?_
  refine GO_q rfl rfl (ev_fieldAddr rfl) ?_
  refine GO_yes rfl rfl rfl rfl ?_
  refine GO_q rfl rfl (ev_load rfl (by repeat' first | exact Ld.blk rfl | assumption | apply Ld.skip | apply Ld.app)) ?_
  refine GO_yes rfl rfl rfl rfl ?_
  refine GO_q rfl rfl (ev_len rfl) ?_
  refine GO_yes rfl rfl rfl rfl ?_
  refine GO_q rfl rfl (ev_eql rfl rfl) ?_
  refine GO_q rfl rfl (ev_pick_f rfl rfl rfl) ?_
  refine GO_nil ?_
  (repeat first | refine G_seq ?_ | refine G_skip ?_ | refine G_endblk ?_ | refine G_block ?_ | refine G_exit rfl ?_)
  refine G_cond_f rfl (decide_eq_false (by omega)) ?_
  (repeat first | refine G_seq ?_ | refine G_skip ?_ | refine G_endblk ?_ | refine G_block ?_ | refine G_exit rfl ?_)
  refine G_draw (.q 0 (.q 1 (.q 2 (.q 3 (.q 4 (.q 5 (.q 6 (.q 7 (.q 8 (.q 9 (.q 10 (.q 11 (.q 12 (.q 13 .nil)))))))))))))) (by kernel_rfl) (by kernel_rfl) ?_
  refine RS_m retB_noPanic rfl rfl rfl rfl (ev_move rfl) ?_
  (first | refine RS_m retB_noPanic rfl rfl rfl rfl (ev_nilCheck rfl) ?_ | refine RS_m retB_noPanic rfl rfl rfl rfl (ev_nilCheckF (by simp) rfl) ?_)
  refine RS_m retB_noPanic rfl rfl rfl rfl (ev_fieldAddr rfl) ?_
  refine RS_q retB_noPanic rfl rfl rfl rfl (ev_load rfl (by repeat' first | exact Ld.blk rfl | assumption | apply Ld.skip | apply Ld.app)) ?_
  refine RS_m retB_noPanic rfl rfl rfl rfl (ev_move rfl) ?_
  (first | refine RS_m retB_noPanic rfl rfl rfl rfl (ev_nilCheck rfl) ?_ | refine RS_m retB_noPanic rfl rfl rfl rfl (ev_nilCheckF (by simp) rfl) ?_)
  refine RS_m retB_noPanic rfl rfl rfl rfl (ev_fieldAddr rfl) ?_
  refine RS_q retB_noPanic rfl rfl rfl rfl (ev_load rfl (by repeat' first | exact Ld.blk rfl | assumption | apply Ld.skip | apply Ld.app)) ?_
  refine RS_q retB_noPanic rfl rfl rfl rfl (ev_len rfl) ?_
  (first | refine RS_m retB_noPanic rfl rfl rfl rfl (ev_subN (q := 1) rfl rfl (by first | omega | (simp; done) | (simp; omega))) ?_ | refine RS_m retB_noPanic rfl rfl rfl rfl (ev_sub rfl rfl (by first | omega | (simp; done) | (simp; omega))) ?_)
  (first | refine RS_m retB_noPanic rfl rfl rfl rfl (ev_indexAddrN rfl rfl (by first | omega | (simp; done) | (simp; omega))) ?_ | refine RS_m retB_noPanic rfl rfl rfl rfl (ev_indexAddr rfl rfl (by first | omega | (simp; done) | (simp; omega)) (by first | omega | (simp; done) | (simp; omega))) ?_)
  refine RS_q retB_noPanic rfl rfl rfl rfl (ev_load rfl (by repeat' first | exact Ld.blk rfl | assumption | apply Ld.skip | apply Ld.app)) ?_
  refine RS_m retB_noPanic rfl rfl rfl rfl (ev_assign rfl) ?_
  refine RS_m retB_noPanic rfl rfl rfl rfl (ev_assign rfl) ?_
  refine RS_nil ?_
  (repeat first | refine G_seq ?_ | refine G_skip ?_ | refine G_endblk ?_ | refine G_block ?_ | refine G_exit rfl ?_)
  refine G_ret rfl (.tmp rfl (.tmp rfl .nil)) (by (repeat first | exact fun _ s => s | apply en_keep | apply en_drop | apply en_app) <;> fail) ⟨rfl, rfl⟩
theorem pop_nil_ctr (b : Nat) (L : List HP) : Ctr Tryz.prog 79 #[.pointer (some ⟨b, 0, none⟩)] (stkS b 65536 [] :: L) fun v L' => v = .tuple #[.pointer none, .bool false] ∧ L' = stkS b 65536 [] :: L := by
  refine Ctr.stk fun A c h1 h2 h3 => ?_
  refine Ctr_of (fn := Tryz.f79) (n := 26) Tryz.func79 rfl rfl rfl ?_
  intro g F
  (repeat first | refine G_seq ?_ | refine G_skip ?_ | refine G_endblk ?_ | refine G_block ?_ | refine G_exit rfl ?_)
  refine G_region ?_
  refine GO_q rfl rfl (ev_assign rfl) ?_
  refine GO_q rfl rfl (ev_assign rfl) ?_
  refine GO_nil ?_
  (repeat first | refine G_seq ?_ | refine G_skip ?_ | refine G_endblk ?_ | refine G_block ?_ | refine G_exit rfl ?_)
  refine G_region ?_
  refine GO_q rfl rfl (ev_move rfl) ?_
  refine GO_eff rfl rfl (eff_call rfl (stop_nil_ctr b A c _ (LdN.skip (LdN.blk rfl)))) ?_; rintro _ _ ⟨rfl, rfl⟩
  refine GO_q rfl rfl (ev_move rfl) ?_
  refine GO_q rfl rfl (ev_extract rfl rfl) ?_
  refine GO_q rfl rfl (ev_extract rfl rfl) ?_
  refine GO_q rfl rfl (ev_assign rfl) ?_
  refine GO_q rfl rfl (ev_assign rfl) ?_
  refine GO_nil ?_
  (repeat first | refine G_seq ?_ | refine G_skip ?_ | refine G_endblk ?_ | refine G_block ?_ | refine G_exit rfl ?_)
  refine G_region ?_
  refine GO_q rfl rfl (ev_move rfl) ?_
  refine GO_nil ?_
  (repeat first | refine G_seq ?_ | refine G_skip ?_ | refine G_endblk ?_ | refine G_block ?_ | refine G_exit rfl ?_)
  refine G_cond_f rfl rfl ?_
  (repeat first | refine G_seq ?_ | refine G_skip ?_ | refine G_endblk ?_ | refine G_block ?_ | refine G_exit rfl ?_)
  refine G_region ?_
  refine GO_q rfl rfl (ev_move rfl) ?_
  refine GO_q rfl rfl (ev_move rfl) ?_
  refine GO_q rfl rfl (ev_assign rfl) ?_
  refine GO_q rfl rfl (ev_assign rfl) ?_
  refine GO_nil ?_
  (repeat first | refine G_seq ?_ | refine G_skip ?_ | refine G_endblk ?_ | refine G_block ?_ | refine G_exit rfl ?_)
  exact G_ret (L' := stkS b 65536 [] :: L) rfl (.tmp rfl (.tmp rfl .nil)) (by (repeat first | exact en_refl | apply en_stk h1 | (apply en_blk; focus ((repeat' first | exact Pick.here | apply Pick.skip | apply Pick.app); done); focus rfl) | (apply en_own; focus ((repeat' first | exact Pick.here | apply Pick.skip | apply Pick.app); done); focus rfl) | (apply en_pick; focus ((repeat' first | exact Pick.here | apply Pick.skip | apply Pick.app); done)) | apply en_drop | apply en_app) <;> fail) ⟨rfl, rfl⟩
theorem pop_ctr (b : Nat) (l : List KT) (x : KT) (L : List HP) (hb : l.length + 1 ≤ 65536) : Ctr Tryz.prog 79 #[.pointer (some ⟨b, 0, none⟩)] (stkS b 65536 (l ++ [x]) :: L) fun v L' => v = .tuple #[.pointer x.addr, .bool true] ∧ L' = stkS b 65536 l :: L := by
  refine Ctr.stk fun A c h1 h2 h3 => ?_
  have hlen : (l ++ [x]).length = l.length + 1 := by simp
  obtain ⟨ab, rfl⟩ := h1 (by omega)
  generalize hn : (l ++ [x]).length = n at *
  refine Ctr_of (fn := Tryz.f79) (n := 26) Tryz.func79 rfl rfl rfl ?_
  intro g F
  (repeat first | refine G_seq ?_ | refine G_skip ?_ | refine G_endblk ?_ | refine G_block ?_ | refine G_exit rfl ?_)
  refine G_region ?_
  refine GO_q rfl rfl (ev_assign rfl) ?_
  refine GO_q rfl rfl (ev_assign rfl) ?_
  refine GO_nil ?_
  (repeat first | refine G_seq ?_ | refine G_skip ?_ | refine G_endblk ?_ | refine G_block ?_ | refine G_exit rfl ?_)
  refine G_region ?_
  refine GO_q rfl rfl (ev_move rfl) ?_
  refine GO_eff rfl rfl (eff_call rfl (stop_ctr b (some ⟨ab, 0, none⟩) n c l x _ (LdN.skip (LdN.blk rfl)) (Rd.skip (Rd.skip (Rc.own (by rw [flat_length, hn]; rfl) (fun _ ↦ ⟨ab, rfl⟩)))) hlen (by omega))) ?_; rintro _ _ ⟨rfl, rfl⟩
  refine GO_q rfl rfl (ev_move rfl) ?_
  refine GO_q rfl rfl (ev_extract rfl rfl) ?_
  refine GO_q rfl rfl (ev_extract rfl rfl) ?_
  refine GO_q rfl rfl (ev_assign rfl) ?_
  refine GO_q rfl rfl (ev_assign rfl) ?_
  refine GO_nil ?_
  (repeat first | refine G_seq ?_ | refine G_skip ?_ | refine G_endblk ?_ | refine G_block ?_ | refine G_exit rfl ?_)
  refine G_region ?_
  refine GO_q rfl rfl (ev_move rfl) ?_
  refine GO_nil ?_
  (repeat first | refine G_seq ?_ | refine G_skip ?_ | refine G_endblk ?_ | refine G_block ?_ | refine G_exit rfl ?_)
  refine G_cond_t rfl rfl ?_
  (repeat first | refine G_seq ?_ | refine G_skip ?_ | refine G_endblk ?_ | refine G_block ?_ | refine G_exit rfl ?_)
  refine G_draw (.q 0 (.q 1 (.q 2 (.q 3 (.q 4 (.q 5 (.q 6 (.q 7 (.q 8 (.q 9 (.q 10 (.q 11 (.q 12 (.q 13 (.e 14 .nil))))))))))))))) (by kernel_rfl) (by kernel_rfl) ?_
  refine RS_m retB_noPanic rfl rfl rfl rfl (ev_move rfl) ?_
  refine RS_m retB_noPanic rfl rfl rfl rfl (ev_move rfl) ?_
  (first | refine RS_m retB_noPanic rfl rfl rfl rfl (ev_nilCheck rfl) ?_ | refine RS_m retB_noPanic rfl rfl rfl rfl (ev_nilCheckF (by simp) rfl) ?_)
  refine RS_m retB_noPanic rfl rfl rfl rfl (ev_fieldAddr rfl) ?_
  refine RS_q retB_noPanic rfl rfl rfl rfl (ev_load rfl (by repeat' first | exact Ld.blk rfl | assumption | apply Ld.skip | apply Ld.app)) ?_
  refine RS_m retB_noPanic rfl rfl rfl rfl (ev_move rfl) ?_
  (first | refine RS_m retB_noPanic rfl rfl rfl rfl (ev_nilCheck rfl) ?_ | refine RS_m retB_noPanic rfl rfl rfl rfl (ev_nilCheckF (by simp) rfl) ?_)
  refine RS_m retB_noPanic rfl rfl rfl rfl (ev_fieldAddr rfl) ?_
  refine RS_q retB_noPanic rfl rfl rfl rfl (ev_load rfl (by repeat' first | exact Ld.blk rfl | assumption | apply Ld.skip | apply Ld.app)) ?_
  refine RS_q retB_noPanic rfl rfl rfl rfl (ev_len rfl) ?_
  (first | refine RS_m retB_noPanic rfl rfl rfl rfl (ev_subN (q := 1) rfl rfl (by first | omega | (simp; done) | (simp; omega))) ?_ | refine RS_m retB_noPanic rfl rfl rfl rfl (ev_sub rfl rfl (by first | omega | (simp; done) | (simp; omega))) ?_)
  refine RS_q retB_noPanic rfl rfl rfl rfl (ev_sliceH rfl rfl (by first | omega | (simp; done) | (simp; omega))) ?_
  (first | refine RS_m retB_noPanic rfl rfl rfl rfl (ev_nilCheck rfl) ?_ | refine RS_m retB_noPanic rfl rfl rfl rfl (ev_nilCheckF (by simp) rfl) ?_)
  refine RS_m retB_noPanic rfl rfl rfl rfl (ev_fieldAddr rfl) ?_
  refine RS_e (RE_last (by kernel_rfl) rfl rfl rfl (eff_store rfl rfl rfl (by repeat' first | exact Upd.here rfl | apply Upd.skip | apply Upd.app)) ?_); rintro _ _ ⟨rfl, rfl⟩
  (repeat first | refine G_seq ?_ | refine G_skip ?_ | refine G_endblk ?_ | refine G_block ?_ | refine G_exit rfl ?_)
  refine G_region ?_
  refine GO_q rfl rfl (ev_move rfl) ?_
  refine GO_q rfl rfl (ev_move rfl) ?_
  refine GO_q rfl rfl (ev_assign rfl) ?_
  refine GO_q rfl rfl (ev_assign rfl) ?_
  refine GO_nil ?_
  (repeat first | refine G_seq ?_ | refine G_skip ?_ | refine G_endblk ?_ | refine G_block ?_ | refine G_exit rfl ?_)
  have e1 : n - 1 = l.length := by omega
  rw [e1]
  refine G_ret (L' := stkS b 65536 l :: L) rfl (.tmp rfl (.tmp rfl .nil)) ?_ ⟨rfl, rfl⟩
  apply en_pick
  focus ((repeat' first | exact Pick.here | apply Pick.skip | apply Pick.app); done)
  refine en_stk (c := c) (fun _ => ⟨ab, rfl⟩) ?_
  refine en_blk .here rfl ?_
  refine en_less .here (by omega) ?_ en_refl
  rw [flat_append]
  exact List.take_left' (flat_length _)
theorem push_ctr (b : Nat) (A : Option Addr) (m q : Nat) (l ys : List KT) (L : List HP) (hy : Rd L A m ys) (hb : l.length + m ≤ 65536) : Ctr Tryz.prog 74 #[.pointer (some ⟨b, 0, none⟩), .slice A m q] (stkS b 65536 l :: L) fun v L' => v = .tuple #[] ∧ L' = stkS b 65536 (l ++ ys) :: L := by
  have hm : ys.length = m := hy.len (by decide)
  refine Ctr.stk fun B c h1 h2 h3 => ?_
  refine Ctr_of (fn := Tryz.f74) (n := 32) Tryz.func74 rfl rfl rfl ?_
  intro g F
  (repeat first | refine G_seq ?_ | refine G_skip ?_ | refine G_endblk ?_ | refine G_block ?_ | refine G_exit rfl ?_)
  refine G_draw (.q 0 (.q 1 (.q 2 (.q 3 (.q 4 (.q 5 (.q 6 (.q 7 (.q 8 (.q 9 (.q 10 (.q 11 (.q 12 .nil))))))))))))) (by kernel_rfl) (by kernel_rfl) ?_
  refine RS_m retB_noPanic rfl rfl rfl rfl (ev_move rfl) ?_
  refine RS_q retB_noPanic rfl rfl rfl rfl (ev_len rfl) ?_
  refine RS_m retB_noPanic rfl rfl rfl rfl (ev_move rfl) ?_
  (first | refine RS_m retB_noPanic rfl rfl rfl rfl (ev_nilCheck rfl) ?_ | refine RS_m retB_noPanic rfl rfl rfl rfl (ev_nilCheckF (by simp) rfl) ?_)
  refine RS_m retB_noPanic rfl rfl rfl rfl (ev_fieldAddr rfl) ?_
  refine RS_q retB_noPanic rfl rfl rfl rfl (ev_load rfl (by repeat' first | exact Ld.blk rfl | assumption | apply Ld.skip | apply Ld.app)) ?_
  refine RS_m retB_noPanic rfl rfl rfl rfl (ev_move rfl) ?_
  (first | refine RS_m retB_noPanic rfl rfl rfl rfl (ev_nilCheck rfl) ?_ | refine RS_m retB_noPanic rfl rfl rfl rfl (ev_nilCheckF (by simp) rfl) ?_)
  refine RS_m retB_noPanic rfl rfl rfl rfl (ev_fieldAddr rfl) ?_
  refine RS_q retB_noPanic rfl rfl rfl rfl (ev_load rfl (by repeat' first | exact Ld.blk rfl | assumption | apply Ld.skip | apply Ld.app)) ?_
  refine RS_q retB_noPanic rfl rfl rfl rfl (ev_len rfl) ?_
  refine RS_m retB_noPanic rfl rfl rfl rfl (ev_sub rfl rfl (by omega)) ?_
  refine RS_m retB_noPanic rfl rfl rfl rfl (ev_gtr rfl rfl) ?_
  refine RS_nil ?_
  (repeat first | refine G_seq ?_ | refine G_skip ?_ | refine G_endblk ?_ | refine G_block ?_ | refine G_exit rfl ?_)
  refine G_cond_f rfl (decide_eq_false (by omega)) ?_
  (repeat first | refine G_seq ?_ | refine G_skip ?_ | refine G_endblk ?_ | refine G_block ?_ | refine G_exit rfl ?_)
  refine G_region ?_
  refine GO_q rfl rfl (ev_move rfl) ?_
  refine GO_q rfl rfl (ev_move rfl) ?_
  (first | refine GO_q rfl rfl (ev_nilCheck rfl) ?_ | refine GO_q rfl rfl (ev_nilCheckF (by simp) rfl) ?_)
  refine GO_q rfl rfl (ev_fieldAddr rfl) ?_
  refine GO_q rfl rfl (ev_load rfl (by repeat' first | exact Ld.blk rfl | assumption | apply Ld.skip | apply Ld.app)) ?_
  refine GO_q rfl rfl (ev_move rfl) ?_
  refine GO_eff rfl rfl (eff_append rfl rfl (by repeat' first | exact Pick.here | apply Pick.skip) ((by repeat' first | exact hy | apply Rc.skip)) ((flat_one _)) (by rfl) (by decide) (by first | omega | (simp; done) | (simp; omega)) (by first | omega | (simp; done) | (simp; omega))) ?_; rintro _ _ ⟨A29, c29, rfl, hc29, hm29, hn29, rfl⟩
  (first | refine GO_q rfl rfl (ev_nilCheck rfl) ?_ | refine GO_q rfl rfl (ev_nilCheckF (by simp) rfl) ?_)
  refine GO_q rfl rfl (ev_fieldAddr rfl) ?_
  refine GO_eff rfl rfl (eff_store rfl rfl rfl (by repeat' first | exact Upd.here rfl | apply Upd.skip | apply Upd.app)) ?_; rintro _ _ ⟨rfl, rfl⟩
  refine GO_nil ?_
  (repeat first | refine G_seq ?_ | refine G_skip ?_ | refine G_endblk ?_ | refine G_block ?_ | refine G_exit rfl ?_)
  have e1 : l.length + m = (l ++ ys).length := by rw [List.length_append, hm]
  rw [e1] at hn29 ⊢
  refine G_end (L' := stkS b 65536 (l ++ ys) :: L) rfl .nil ?_ ⟨rfl, rfl⟩
  apply en_pick
  focus ((repeat' first | exact Pick.here | apply Pick.skip | apply Pick.app); done)
  refine en_stk (c := c29) hn29 ?_
  rw [flat_append]
  exact (by (repeat first | exact en_refl | (apply en_blk; focus ((repeat' first | exact Pick.here | apply Pick.skip | apply Pick.app); done); focus rfl) | (apply en_own; focus ((repeat' first | exact Pick.here | apply Pick.skip | apply Pick.app); done); focus rfl) | (apply en_pick; focus ((repeat' first | exact Pick.here | apply Pick.skip | apply Pick.app); done)) | apply en_drop | apply en_app) <;> fail)
theorem push1_ctr (b2 b3 b : Nat) (A : Option Addr) (m q : Nat) (l ys : List KT) (L : List HP) (h2 : Ld L ⟨b2, 0, none⟩ (.pointer (some ⟨b, 0, none⟩))) (h3 : Ld L ⟨b3, 0, none⟩ (.slice A m q)) (hy : Rd L A m ys) (hb : l.length + m ≤ 65536) :
    Ctr Tryz.prog 73 #[.pointer (some ⟨b2, 0, none⟩), .pointer (some ⟨b3, 0, none⟩)] (stkS b 65536 l :: L) fun v L' => L' = stkS b 65536 (l ++ ys) :: L := by
  refine Ctr_of (fn := Tryz.f73) (n := 5) Tryz.func73 rfl rfl rfl ?_
  intro g F
  (repeat first | refine G_seq ?_ | refine G_skip ?_ | refine G_endblk ?_ | refine G_block ?_ | refine G_exit rfl ?_)
  refine G_region ?_
  refine GO_q rfl rfl (ev_load rfl (by repeat' first | exact Ld.blk rfl | assumption | apply Ld.skip | apply Ld.app)) ?_
  refine GO_q rfl rfl (ev_load rfl (by repeat' first | exact Ld.blk rfl | assumption | apply Ld.skip | apply Ld.app)) ?_
  refine GO_eff rfl rfl (eff_call rfl (Ctr.pick (by repeat' first | exact Pick.here | apply Pick.skip | apply Pick.app) (push_ctr b A m q l ys _ (by repeat' first | exact hy | apply Rd.skip) hb))) ?_; rintro _ _ ⟨rfl, rfl⟩
  refine GO_nil ?_
  (repeat first | refine G_seq ?_ | refine G_skip ?_ | refine G_endblk ?_ | refine G_block ?_ | refine G_exit rfl ?_)
  exact G_end (L' := stkS b 65536 (l ++ ys) :: L) rfl .nil (by (repeat first | exact en_refl | (apply en_blk; focus ((repeat' first | exact Pick.here | apply Pick.skip | apply Pick.app); done); focus rfl) | (apply en_own; focus ((repeat' first | exact Pick.here | apply Pick.skip | apply Pick.app); done); focus rfl) | (apply en_pick; focus ((repeat' first | exact Pick.here | apply Pick.skip | apply Pick.app); done)) | apply en_drop | apply en_app) <;> fail) rfl
theorem Push_ctr (b : Nat) (A : Option Addr) (m q : Nat) (l ys : List KT) (L : List HP) (hy : Rd L A m ys) (hb : l.length + m ≤ 65536) : Ctr Tryz.prog 51 #[.pointer (some ⟨b, 0, none⟩), .slice A m q] (stkS b 65536 l :: L) fun v L' => v = .int .i64 0 ∧ L' = stkS b 65536 (l ++ ys) :: L := by
  refine Ctr_of (fn := Tryz.f51) (n := 16) Tryz.func51 rfl rfl rfl ?_
  intro g F
  (repeat first | refine G_seq ?_ | refine G_skip ?_ | refine G_endblk ?_ | refine G_block ?_ | refine G_exit rfl ?_)
  refine G_region ?_
  refine GO_eff rfl rfl (eff_box rfl) ?_; rintro _ _ ⟨b2, rfl, rfl⟩
  refine GO_eff rfl rfl (eff_box rfl) ?_; rintro _ _ ⟨b3, rfl, rfl⟩
  refine GO_q rfl rfl (ev_assign rfl) ?_
  refine GO_nil ?_
  (repeat first | refine G_seq ?_ | refine G_skip ?_ | refine G_endblk ?_ | refine G_block ?_ | refine G_exit rfl ?_)
  refine G_region ?_
  refine GO_q rfl rfl (ev_load rfl (by repeat' first | exact Ld.blk rfl | assumption | apply Ld.skip | apply Ld.app)) ?_
  (first | refine GO_q rfl rfl (ev_eqlNil rfl rfl) ?_ | refine GO_q rfl rfl (ev_eqlPtr rfl rfl) ?_)
  refine GO_nil ?_
  (repeat first | refine G_seq ?_ | refine G_skip ?_ | refine G_endblk ?_ | refine G_block ?_ | refine G_exit rfl ?_)
  refine G_cond_f rfl rfl ?_
  (repeat first | refine G_seq ?_ | refine G_skip ?_ | refine G_endblk ?_ | refine G_block ?_ | refine G_exit rfl ?_)
  refine G_region ?_
  refine GO_q rfl rfl (ev_makeFunc rfl rfl) ?_
  refine GO_eff rfl rfl (eff_call rfl (Ctr.pick (by repeat' first | exact Pick.here | apply Pick.skip | apply Pick.app) (Catch_ctr (c1 := []) (c2 := [.pointer (some ⟨b2, 0, none⟩), .pointer (some ⟨b3, 0, none⟩)]) (post := fun L' => L' = stkS b 65536 (l ++ ys) :: blk b3 99 [.slice A m q] :: blk b2 68 [.pointer (some ⟨b, 0, none⟩)] :: F :: L) (push1_ctr b2 b3 b A m q l ys _ (Ld.skip (Ld.blk rfl)) (Ld.blk rfl) (by repeat' first | exact hy | apply Rd.skip) hb)))) ?_; rintro _ _ ⟨rfl, rfl⟩
  refine GO_q rfl rfl (ev_move rfl) ?_
  refine GO_q rfl rfl (ev_extract rfl rfl) ?_
  refine GO_q rfl rfl (ev_extract rfl rfl) ?_
  refine GO_eff rfl rfl eff_alloc ?_; rintro _ _ ⟨b5, rfl, rfl⟩
  refine GO_eff rfl rfl (eff_storeN rfl rfl rfl rfl (by repeat' first | exact Upd.here rfl | apply Upd.skip | apply Upd.app)) ?_; rintro _ _ ⟨rfl, rfl⟩
  refine GO_q rfl rfl (ev_assign rfl) ?_
  refine GO_nil ?_
  (repeat first | refine G_seq ?_ | refine G_skip ?_ | refine G_endblk ?_ | refine G_block ?_ | refine G_exit rfl ?_)
  refine G_region ?_
  refine GO_q rfl rfl (ev_fieldAddr rfl) ?_
  refine GO_q rfl rfl (ev_load rfl (by repeat' first | exact Ld.blk rfl | assumption | apply Ld.skip | apply Ld.app)) ?_
  refine GO_q rfl rfl (ev_assign rfl) ?_
  refine GO_nil ?_
  (repeat first | refine G_seq ?_ | refine G_skip ?_ | refine G_endblk ?_ | refine G_block ?_ | refine G_exit rfl ?_)
  exact G_ret (L' := stkS b 65536 (l ++ ys) :: L) rfl (.tmp rfl .nil) (by (repeat first | exact en_refl | (apply en_blk; focus ((repeat' first | exact Pick.here | apply Pick.skip | apply Pick.app); done); focus rfl) | (apply en_own; focus ((repeat' first | exact Pick.here | apply Pick.skip | apply Pick.app); done); focus rfl) | (apply en_pick; focus ((repeat' first | exact Pick.here | apply Pick.skip | apply Pick.app); done)) | apply en_drop | apply en_app) <;> fail) ⟨rfl, rfl⟩
/-! What is visited. -/
theorem KClone_ctr (A : Option Addr) (n c : Nat) (l : List KT) (L : List HP) (hl : Rd L A n l) (hn : n ≤ 1000000) :
    Ctr Tryz.prog 63 #[.slice A n c] L fun v L' => Made 33 l L v L' := by
  have h1 : l.length = n := hl.len (by decide)
  refine Ctr_of (fn := Tryz.f63) (n := 8) Tryz.func63 rfl rfl rfl ?_
  intro g F
  (repeat first | refine G_seq ?_ | refine G_skip ?_ | refine G_endblk ?_ | refine G_block ?_ | refine G_exit rfl ?_)
  refine G_region ?_
  refine GO_q rfl rfl (ev_assign rfl) ?_
  refine GO_nil ?_
  (repeat first | refine G_seq ?_ | refine G_skip ?_ | refine G_endblk ?_ | refine G_block ?_ | refine G_exit rfl ?_)
  refine G_region ?_
  refine GO_q rfl rfl (ev_move rfl) ?_
  refine GO_q rfl rfl (ev_eqlNilS rfl rfl) ?_
  refine GO_nil ?_
  (repeat first | refine G_seq ?_ | refine G_skip ?_ | refine G_endblk ?_ | refine G_block ?_ | refine G_exit rfl ?_)
  refine G_condB rfl (fun h2 => ?_) (fun h2 => ?_)
  · have e : A = none := by simpa using h2
    subst e
    have h3 : n = 0 := by
      rcases Nat.eq_zero_or_pos n with h | h
      · exact h
      · obtain ⟨b, o, e, _⟩ := hl.at_ h; cases e
    subst h3
    have : l = [] := List.eq_nil_of_length_eq_zero h1
    subst this
    (repeat first | refine G_seq ?_ | refine G_skip ?_ | refine G_endblk ?_ | refine G_block ?_ | refine G_exit rfl ?_)
    refine G_region ?_
    refine GO_q rfl rfl (ev_assign rfl) ?_
    refine GO_nil ?_
    (repeat first | refine G_seq ?_ | refine G_skip ?_ | refine G_endblk ?_ | refine G_block ?_ | refine G_exit rfl ?_)
    refine G_ret (L' := own 33 1 none 0 0 [] :: L) rfl (.tmp rfl .nil) ?_ ⟨none, 0, rfl, fun h => absurd h (Nat.lt_irrefl 0), rfl⟩
    exact fun h s => (own.nil_ 33 1 h s).swap
  · (repeat first | refine G_seq ?_ | refine G_skip ?_ | refine G_endblk ?_ | refine G_block ?_ | refine G_exit rfl ?_)
    refine G_region ?_
    refine GO_eff rfl rfl eff_buildSlice0 ?_; rintro _ _ ⟨b5, rfl, rfl⟩
    refine GO_q rfl rfl (ev_move rfl) ?_
    refine GO_eff rfl rfl (eff_append rfl rfl (by repeat' first | exact Pick.here | apply Pick.skip) (Rc.skip (Rc.skip hl)) ((flat_one _)) (by rfl) (by decide) (by first | omega | (simp; done) | (simp; omega)) (by first | omega | (simp; done) | (simp; omega))) ?_; rintro _ _ ⟨A7, c7, rfl, hc7, hm7, hn7, rfl⟩
    refine GO_q rfl rfl (ev_assign rfl) ?_
    refine GO_nil ?_
    rw [Nat.zero_add] at hc7 hn7
    (repeat first | refine G_seq ?_ | refine G_skip ?_ | refine G_endblk ?_ | refine G_block ?_ | refine G_exit rfl ?_)
    refine G_ret (L' := own 33 1 A7 l.length c7 (flat l) :: L) rfl (.tmp rfl .nil) ?_ ⟨A7, c7, by rw [h1]; simp [retv], by rw [h1]; exact hn7, rfl⟩
    rw [h1, Nat.zero_add, List.nil_append]
    refine en_pick (.skip (.here)) ?_
    refine en_pick (.here) ?_
    exact (by (repeat first | exact fun _ s => s | apply en_keep | apply en_drop | apply en_app) <;> fail)
theorem KReverse_ctr (A : Option Addr) (c : Nat) (l : List KT) (L : List HP) (hA : 0 < l.length → ∃ b, A = some ⟨b, 0, none⟩) (h2 : l.length ≤ 2) :
    Ctr Tryz.prog 80 #[.slice A l.length c] (own 33 1 A l.length c (flat l) :: L) fun v L' => v = .tuple #[] ∧ L' = own 33 1 A l.length c (flat l.reverse) :: L := by
  match l, h2, hA with
  | [], _, hA =>
    refine Ctr_of (fn := Tryz.f80) (n := 28) Tryz.func80 rfl rfl rfl ?_
    intro g F
    (repeat first | refine G_seq ?_ | refine G_skip ?_ | refine G_endblk ?_ | refine G_block ?_ | refine G_exit rfl ?_)
    refine G_region ?_
    refine GO_q rfl rfl (ev_move rfl) ?_
    refine GO_q rfl rfl (ev_len rfl) ?_
    (first | refine GO_q rfl rfl (ev_subN (q := 1) rfl rfl (by first | omega | (simp; done) | (simp; omega))) ?_ | refine GO_q rfl rfl (ev_sub rfl rfl (by first | omega | (simp; done) | (simp; omega))) ?_)
    refine GO_q rfl rfl (ev_assign rfl) ?_
    refine GO_q rfl rfl (ev_assign rfl) ?_
    refine GO_nil ?_
    (repeat first | refine G_seq ?_ | refine G_skip ?_ | refine G_endblk ?_ | refine G_block ?_ | refine G_exit rfl ?_)
    refine G_loop (ι := Unit) (fun _ => [(0, .slice A ([] : List KT).length c), (2, .int .i64 0), (3, .int .i64 (-1))]) (fun _ => F :: own 33 1 A ([] : List KT).length c (flat ([] : List KT)) :: L) (fun _ => True) (fun _ => 0) () trivial ⟨rfl, rfl, rfl, trivial⟩ en_refl ?_
    intro _ _
    (repeat first | refine G_seq ?_ | refine G_skip ?_ | refine G_endblk ?_ | refine G_block ?_ | refine G_exit rfl ?_)
    refine G_region ?_
    refine GO_q rfl rfl (ev_move rfl) ?_
    refine GO_q rfl rfl (ev_move rfl) ?_
    (first | refine GO_q rfl rfl (ev_lssN rfl rfl) ?_ | refine GO_q rfl rfl (ev_lss rfl rfl) ?_)
    refine GO_nil ?_
    (repeat first | refine G_seq ?_ | refine G_skip ?_ | refine G_endblk ?_ | refine G_block ?_ | refine G_exit rfl ?_)
    refine G_cond_f rfl rfl ?_
    (repeat first | refine G_seq ?_ | refine G_skip ?_ | refine G_endblk ?_ | refine G_block ?_ | refine G_exit rfl ?_)
    exact G_end (L' := own 33 1 A ([] : List KT).length c (flat ([] : List KT).reverse) :: L) rfl .nil en_refl ⟨rfl, rfl⟩
  | [x], _, hA =>
    refine Ctr_of (fn := Tryz.f80) (n := 28) Tryz.func80 rfl rfl rfl ?_
    intro g F
    (repeat first | refine G_seq ?_ | refine G_skip ?_ | refine G_endblk ?_ | refine G_block ?_ | refine G_exit rfl ?_)
    refine G_region ?_
    refine GO_q rfl rfl (ev_move rfl) ?_
    refine GO_q rfl rfl (ev_len rfl) ?_
    (first | refine GO_q rfl rfl (ev_subN (q := 1) rfl rfl (by first | omega | (simp; done) | (simp; omega))) ?_ | refine GO_q rfl rfl (ev_sub rfl rfl (by first | omega | (simp; done) | (simp; omega))) ?_)
    refine GO_q rfl rfl (ev_assign rfl) ?_
    refine GO_q rfl rfl (ev_assign rfl) ?_
    refine GO_nil ?_
    (repeat first | refine G_seq ?_ | refine G_skip ?_ | refine G_endblk ?_ | refine G_block ?_ | refine G_exit rfl ?_)
    refine G_loop (ι := Unit) (fun _ => [(0, .slice A [x].length c), (2, .int .i64 0), (3, .int .i64 0)]) (fun _ => F :: own 33 1 A [x].length c (flat [x]) :: L) (fun _ => True) (fun _ => 0) () trivial ⟨rfl, rfl, rfl, trivial⟩ en_refl ?_
    intro _ _
    (repeat first | refine G_seq ?_ | refine G_skip ?_ | refine G_endblk ?_ | refine G_block ?_ | refine G_exit rfl ?_)
    refine G_region ?_
    refine GO_q rfl rfl (ev_move rfl) ?_
    refine GO_q rfl rfl (ev_move rfl) ?_
    (first | refine GO_q rfl rfl (ev_lssN rfl rfl) ?_ | refine GO_q rfl rfl (ev_lss rfl rfl) ?_)
    refine GO_nil ?_
    (repeat first | refine G_seq ?_ | refine G_skip ?_ | refine G_endblk ?_ | refine G_block ?_ | refine G_exit rfl ?_)
    refine G_cond_f rfl rfl ?_
    (repeat first | refine G_seq ?_ | refine G_skip ?_ | refine G_endblk ?_ | refine G_block ?_ | refine G_exit rfl ?_)
    exact G_end (L' := own 33 1 A [x].length c (flat [x].reverse) :: L) rfl .nil en_refl ⟨rfl, rfl⟩
  | [x, y], _, hA =>
    obtain ⟨ab, rfl⟩ := hA (by simp)
    refine Ctr_of (fn := Tryz.f80) (n := 28) Tryz.func80 rfl rfl rfl ?_
    intro g F
    refine G_heap (L' := own 33 1 (some ⟨ab, 0, none⟩) 2 c [.pointer x.addr, .pointer y.addr] :: F :: L) (fun _ s => s.swap) ?_
    refine G_open (ι := List Value) (F := fun r => (Value.pointer x.addr :: .pointer y.addr :: r).length = c * 1 ∧ 2 ≤ c ∧ c ≤ maxLen) (N := fun r => [blk ab 33 (.pointer x.addr :: .pointer y.addr :: r)]) (fun h o => by
      obtain ⟨cs, hb, hl, ht⟩ := o.opn
      have e : cs = .pointer x.addr :: .pointer y.addr :: cs.drop 2 := by
        have := List.take_append_drop 2 cs
        rw [show (2 * 1) = 2 from rfl] at ht
        rw [ht] at this
        exact this.symm
      exact ⟨cs.drop 2, ⟨by rw [← e]; exact hl, o.le, o.cap⟩, sat.one (e ▸ hb)⟩) ?_
    rintro r ⟨k1, k2, k3⟩
    refine G_heap (L' := F :: blk ab 33 (.pointer x.addr :: .pointer y.addr :: r) :: L) (fun _ s => s.swap) ?_
    (repeat first | refine G_seq ?_ | refine G_skip ?_ | refine G_endblk ?_ | refine G_block ?_ | refine G_exit rfl ?_)
    refine G_region ?_
    refine GO_q rfl rfl (ev_move rfl) ?_
    refine GO_q rfl rfl (ev_len rfl) ?_
    (first | refine GO_q rfl rfl (ev_subN (q := 1) rfl rfl (by first | omega | (simp; done) | (simp; omega))) ?_ | refine GO_q rfl rfl (ev_sub rfl rfl (by first | omega | (simp; done) | (simp; omega))) ?_)
    refine GO_q rfl rfl (ev_assign rfl) ?_
    refine GO_q rfl rfl (ev_assign rfl) ?_
    refine GO_nil ?_
    (repeat first | refine G_seq ?_ | refine G_skip ?_ | refine G_endblk ?_ | refine G_block ?_ | refine G_exit rfl ?_)
    refine G_loop (ι := List Value × Nat × Nat) (fun z => [(0, .slice (some ⟨ab, 0, none⟩) 2 c), (2, .int .i64 (z.2.1 : Nat)), (3, .int .i64 (z.2.2 : Nat))]) (fun z => F :: blk ab 33 z.1 :: L) (fun z => z = (.pointer x.addr :: .pointer y.addr :: r, 0, 1) ∨ z = (.pointer y.addr :: .pointer x.addr :: r, 1, 0)) (fun z => z.2.2) (.pointer x.addr :: .pointer y.addr :: r, 0, 1) (.inl rfl) ⟨rfl, rfl, rfl, trivial⟩ en_refl ?_
    rintro z (rfl | rfl)
    · dsimp only
      (repeat first | refine G_seq ?_ | refine G_skip ?_ | refine G_endblk ?_ | refine G_block ?_ | refine G_exit rfl ?_)
      refine G_region ?_
      refine GO_q rfl rfl (ev_move rfl) ?_
      refine GO_q rfl rfl (ev_move rfl) ?_
      (first | refine GO_q rfl rfl (ev_lssN rfl rfl) ?_ | refine GO_q rfl rfl (ev_lss rfl rfl) ?_)
      refine GO_nil ?_
      (repeat first | refine G_seq ?_ | refine G_skip ?_ | refine G_endblk ?_ | refine G_block ?_ | refine G_exit rfl ?_)
      refine G_cond_t rfl rfl ?_
      (repeat first | refine G_seq ?_ | refine G_skip ?_ | refine G_endblk ?_ | refine G_block ?_ | refine G_exit rfl ?_)
      refine G_draw (.q 0 (.q 1 (.q 2 (.q 3 (.q 4 (.q 5 (.q 6 (.q 7 (.q 8 (.q 9 (.q 10 (.q 11 (.q 12 (.e 13 (.q 14 (.e 15 .nil)))))))))))))))) (by kernel_rfl) (by kernel_rfl) ?_
      refine RS_m retB_noPanic rfl rfl rfl rfl (ev_move rfl) ?_
      refine RS_m retB_noPanic rfl rfl rfl rfl (ev_move rfl) ?_
      refine RS_m retB_noPanic rfl rfl rfl rfl (ev_move rfl) ?_
      refine RS_m retB_noPanic rfl rfl rfl rfl (ev_move rfl) ?_
      refine RS_m retB_noPanic rfl rfl rfl rfl (ev_move rfl) ?_
      refine RS_m retB_noPanic rfl rfl rfl rfl (ev_move rfl) ?_
      (first | refine RS_m retB_noPanic rfl rfl rfl rfl (ev_indexAddrN rfl rfl (by first | omega | (simp; done) | (simp; omega))) ?_ | refine RS_m retB_noPanic rfl rfl rfl rfl (ev_indexAddr rfl rfl (by first | omega | (simp; done) | (simp; omega)) (by first | omega | (simp; done) | (simp; omega))) ?_)
      refine RS_q retB_noPanic rfl rfl rfl rfl (ev_load rfl (by repeat' first | exact Ld.blk rfl | assumption | apply Ld.skip | apply Ld.app)) ?_
      refine RS_m retB_noPanic rfl rfl rfl rfl (ev_move rfl) ?_
      refine RS_m retB_noPanic rfl rfl rfl rfl (ev_move rfl) ?_
      (first | refine RS_m retB_noPanic rfl rfl rfl rfl (ev_indexAddrN rfl rfl (by first | omega | (simp; done) | (simp; omega))) ?_ | refine RS_m retB_noPanic rfl rfl rfl rfl (ev_indexAddr rfl rfl (by first | omega | (simp; done) | (simp; omega)) (by first | omega | (simp; done) | (simp; omega))) ?_)
      refine RS_q retB_noPanic rfl rfl rfl rfl (ev_load rfl (by repeat' first | exact Ld.blk rfl | assumption | apply Ld.skip | apply Ld.app)) ?_
      (first | refine RS_m retB_noPanic rfl rfl rfl rfl (ev_indexAddrN rfl rfl (by first | omega | (simp; done) | (simp; omega))) ?_ | refine RS_m retB_noPanic rfl rfl rfl rfl (ev_indexAddr rfl rfl (by first | omega | (simp; done) | (simp; omega)) (by first | omega | (simp; done) | (simp; omega))) ?_)
      refine RS_e (RE_cmp (by kernel_rfl) rfl rfl rfl (eff_store rfl rfl rfl (by repeat' first | exact Upd.here rfl | apply Upd.skip | apply Upd.app)) ?_); rintro _ _ ⟨rfl, rfl⟩
      (first | refine RS_m retB_noPanic rfl rfl rfl rfl (ev_indexAddrN rfl rfl (by first | omega | (simp; done) | (simp; omega))) ?_ | refine RS_m retB_noPanic rfl rfl rfl rfl (ev_indexAddr rfl rfl (by first | omega | (simp; done) | (simp; omega)) (by first | omega | (simp; done) | (simp; omega))) ?_)
      refine RS_e (RE_last (by kernel_rfl) rfl rfl rfl (eff_store rfl rfl rfl (by repeat' first | exact Upd.here rfl | apply Upd.skip | apply Upd.app)) ?_); rintro _ _ ⟨rfl, rfl⟩
      (repeat first | refine G_seq ?_ | refine G_skip ?_ | refine G_endblk ?_ | refine G_block ?_ | refine G_exit rfl ?_)
      refine G_region ?_
      refine GO_q rfl rfl (ev_move rfl) ?_
      (first | refine GO_q rfl rfl (ev_addN (q := 1) rfl rfl (by first | omega | (simp; done) | (simp; omega))) ?_ | refine GO_q rfl rfl (ev_add rfl rfl (by first | omega | (simp; done) | (simp; omega))) ?_)
      refine GO_q rfl rfl (ev_move rfl) ?_
      (first | refine GO_q rfl rfl (ev_subN (q := 1) rfl rfl (by first | omega | (simp; done) | (simp; omega))) ?_ | refine GO_q rfl rfl (ev_sub rfl rfl (by first | omega | (simp; done) | (simp; omega))) ?_)
      refine GO_q rfl rfl (ev_assign rfl) ?_
      refine GO_q rfl rfl (ev_assign rfl) ?_
      refine GO_nil ?_
      (repeat first | refine G_seq ?_ | refine G_skip ?_ | refine G_endblk ?_ | refine G_block ?_ | refine G_exit rfl ?_)
      exact G_round (.pointer y.addr :: .pointer x.addr :: r, 1, 0) (.inr rfl) (Nat.zero_lt_one) ⟨rfl, rfl, rfl, trivial⟩ (by dsimp only; rw [sw2]; exact (by (repeat first | exact en_refl | (apply en_blk; focus ((repeat' first | exact Pick.here | apply Pick.skip | apply Pick.app); done); focus rfl) | (apply en_own; focus ((repeat' first | exact Pick.here | apply Pick.skip | apply Pick.app); done); focus rfl) | (apply en_pick; focus ((repeat' first | exact Pick.here | apply Pick.skip | apply Pick.app); done)) | apply en_drop | apply en_app) <;> fail))
    · dsimp only
      (repeat first | refine G_seq ?_ | refine G_skip ?_ | refine G_endblk ?_ | refine G_block ?_ | refine G_exit rfl ?_)
      refine G_region ?_
      refine GO_q rfl rfl (ev_move rfl) ?_
      refine GO_q rfl rfl (ev_move rfl) ?_
      (first | refine GO_q rfl rfl (ev_lssN rfl rfl) ?_ | refine GO_q rfl rfl (ev_lss rfl rfl) ?_)
      refine GO_nil ?_
      (repeat first | refine G_seq ?_ | refine G_skip ?_ | refine G_endblk ?_ | refine G_block ?_ | refine G_exit rfl ?_)
      refine G_cond_f rfl rfl ?_
      (repeat first | refine G_seq ?_ | refine G_skip ?_ | refine G_endblk ?_ | refine G_block ?_ | refine G_exit rfl ?_)
      refine G_end (L' := own 33 1 (some ⟨ab, 0, none⟩) 2 c [.pointer y.addr, .pointer x.addr] :: L) rfl .nil (en_keep ?_) ⟨rfl, rfl⟩
      exact own_of1 k1 k2 k3
def funcB (P : Program) (T : TypeId) : Bool := match P.underlying T with
  | some (.func _ _ _) => true
  | _ => false
class FuncT (P : Program) (T : TypeId) : Prop where
  h : funcB P T = true
theorem FuncT.spec {P : Program} {T : TypeId} (H : FuncT P T) : ∃ a b c, P.underlying T = some (.func a b c) := by
  have h := H.h
  unfold funcB at h
  split at h
  · exact ⟨_, _, _, by assumption⟩
  · cases h
theorem ev_eqlNilF {P : Program} {L : List HP} {σ : Env} {d : Option Nat} {ty T T' : TypeId} {pos : String} {aft : Array Edge} {gd : Option (Nat × Bool)} {x y : Operand} {f : Fn} {a b : Array Value} [H : FuncT P T] (hx : ev σ x = some (.func f a b)) (hy : ev σ y = some .nilFunc) : Ev P L σ ⟨d, .binOp .eql T x y T', ty, pos, aft, gd⟩ (.bool false) :=
  bin_run' _ _ _ _ (fun w => by unfold eqGuard; split <;> rfl) hx hy fun w => by
    obtain ⟨_, _, _, he⟩ := H.spec
    have h2 : (Op.equal T (.func f a b) .nilFunc).run P w = .ok false w := by
      unfold Op.equal
      rw [show Op.maxDepth = 9999 + 1 from rfl]
      unfold Op.equalIn
      simp only [Sem.run_bind, run_underlying he, Result.andThen_ok]
      rfl
    show ((do pure (.bool (← Op.equal T (.func f a b) .nilFunc)) : Sem Value)).run P w = _
    simp only [Sem.run_bind, h2, Result.andThen_ok, Sem.run_pure]
instance : FuncT Tryz.prog 75 := ⟨by kernel_rfl⟩
/-- What looks at nodes: what it has, which ones it tells, what it has then; and what is still to come. -/
structure Vis (S : Type) where
  V : S → HP
  ok : KT → S → Prop
  kids : KT → List KT
  upd : KT → S → S
  f : FuncId
  c1 : List Value
  c2 : List Value
  I : List KT → S → Nat → Prop
structure Vis.Good {S : Type} (X : Vis S) (L : List HP) : Prop where
  cal : CalT Tryz.prog X.f
  visit : ∀ (M : List HP) (x : KT) (st : S), (∀ h, sat M h → sat L h) → X.ok x st → Ctr Tryz.prog X.f (X.c1 ++ [Value.pointer x.addr] ++ X.c2).toArray (X.V st :: M) fun v L' => Made 33 (X.kids x) (X.V (X.upd x st) :: M) v L'
  next : ∀ (l : List KT) (x : KT) (st : S) (r : Nat), X.I (l ++ [x]) st r → ∃ r', r = r' + 1 ∧ X.I (l ++ (X.kids x).reverse) (X.upd x st) r'
  stop : ∀ (st : S) (r : Nat), X.I [] st r → r = 0
  cap : ∀ (l : List KT) (st : S) (r : Nat), X.I l st r → l.length ≤ 60000 ∧ ∀ x ∈ l, X.ok x st ∧ (X.kids x).length ≤ 2
@[reducible] def wkC {S : Type} (X : Vis S) (s n : Nat) : List Value := [.pointer (some ⟨s, 0, none⟩), .func (.func X.f) X.c1.toArray X.c2.toArray, .int .i64 (n : Nat)]
theorem wstep_nil_ctr {S : Type} (X : Vis S) (bw s n : Nat) (L : List HP) : Ctr Tryz.prog 57 #[.pointer (some ⟨bw, 0, none⟩)] (blk bw 94 (wkC X s n) :: stkS s 65536 [] :: L) fun v L' => v = .bool false ∧ L' = blk bw 94 (wkC X s n) :: stkS s 65536 [] :: L := by
  refine Ctr_of (fn := Tryz.f57) (n := 38) Tryz.func57 rfl rfl rfl ?_
  intro g F
  (repeat first | refine G_seq ?_ | refine G_skip ?_ | refine G_endblk ?_ | refine G_block ?_ | refine G_exit rfl ?_)
  refine G_region ?_
  refine GO_q rfl rfl (ev_assign rfl) ?_
  refine GO_nil ?_
  (repeat first | refine G_seq ?_ | refine G_skip ?_ | refine G_endblk ?_ | refine G_block ?_ | refine G_exit rfl ?_)
  refine G_region ?_
  refine GO_q rfl rfl (ev_move rfl) ?_
  (first | refine GO_q rfl rfl (ev_nilCheck rfl) ?_ | refine GO_q rfl rfl (ev_nilCheckF (by simp) rfl) ?_)
  refine GO_q rfl rfl (ev_fieldAddr rfl) ?_
  refine GO_q rfl rfl (ev_load rfl (by repeat' first | exact Ld.blk rfl | assumption | apply Ld.skip | apply Ld.app)) ?_
  refine GO_eff rfl rfl (eff_call rfl (Ctr.pick (by repeat' first | exact Pick.here | apply Pick.skip | apply Pick.app) (pop_nil_ctr s _))) ?_; rintro _ _ ⟨rfl, rfl⟩
  refine GO_q rfl rfl (ev_move rfl) ?_
  refine GO_q rfl rfl (ev_extract rfl rfl) ?_
  refine GO_q rfl rfl (ev_extract rfl rfl) ?_
  refine GO_q rfl rfl (ev_assign rfl) ?_
  refine GO_q rfl rfl (ev_assign rfl) ?_
  refine GO_nil ?_
  (repeat first | refine G_seq ?_ | refine G_skip ?_ | refine G_endblk ?_ | refine G_block ?_ | refine G_exit rfl ?_)
  refine G_region ?_
  refine GO_q rfl rfl (ev_move rfl) ?_
  refine GO_q rfl rfl (ev_not rfl) ?_
  refine GO_nil ?_
  (repeat first | refine G_seq ?_ | refine G_skip ?_ | refine G_endblk ?_ | refine G_block ?_ | refine G_exit rfl ?_)
  refine G_cond_t rfl rfl ?_
  (repeat first | refine G_seq ?_ | refine G_skip ?_ | refine G_endblk ?_ | refine G_block ?_ | refine G_exit rfl ?_)
  refine G_region ?_
  refine GO_q rfl rfl (ev_assign rfl) ?_
  refine GO_nil ?_
  (repeat first | refine G_seq ?_ | refine G_skip ?_ | refine G_endblk ?_ | refine G_block ?_ | refine G_exit rfl ?_)
  exact G_ret (L' := blk bw 94 (wkC X s n) :: stkS s 65536 [] :: L) rfl (.tmp rfl .nil) (by (repeat first | exact en_refl | (apply en_blk; focus ((repeat' first | exact Pick.here | apply Pick.skip | apply Pick.app); done); focus rfl) | (apply en_own; focus ((repeat' first | exact Pick.here | apply Pick.skip | apply Pick.app); done); focus rfl) | (apply en_pick; focus ((repeat' first | exact Pick.here | apply Pick.skip | apply Pick.app); done)) | apply en_drop | apply en_app) <;> fail) ⟨rfl, rfl⟩
theorem wstep_ctr {S : Type} (X : Vis S) (bw s n : Nat) (l : List KT) (x : KT) (st : S) (L L0 : List HP) (hX : X.Good L0) (hM : ∀ h, sat L h → sat L0 h) (hok : X.ok x st) (hk : (X.kids x).length ≤ 2) (hl : l.length ≤ 60000) (hn : n ≤ 1000000000000) :
    Ctr Tryz.prog 57 #[.pointer (some ⟨bw, 0, none⟩)] (blk bw 94 (wkC X s n) :: stkS s 65536 (l ++ [x]) :: X.V st :: L) fun v L' => v = .bool true ∧ L' = blk bw 94 (wkC X s (n + 1)) :: stkS s 65536 (l ++ (X.kids x).reverse) :: X.V (X.upd x st) :: L := by
  haveI := hX.cal
  refine Ctr_of (fn := Tryz.f57) (n := 38) Tryz.func57 rfl rfl rfl ?_
  intro g F
  (repeat first | refine G_seq ?_ | refine G_skip ?_ | refine G_endblk ?_ | refine G_block ?_ | refine G_exit rfl ?_)
  refine G_region ?_
  refine GO_q rfl rfl (ev_assign rfl) ?_
  refine GO_nil ?_
  (repeat first | refine G_seq ?_ | refine G_skip ?_ | refine G_endblk ?_ | refine G_block ?_ | refine G_exit rfl ?_)
  refine G_region ?_
  refine GO_q rfl rfl (ev_move rfl) ?_
  (first | refine GO_q rfl rfl (ev_nilCheck rfl) ?_ | refine GO_q rfl rfl (ev_nilCheckF (by simp) rfl) ?_)
  refine GO_q rfl rfl (ev_fieldAddr rfl) ?_
  refine GO_q rfl rfl (ev_load rfl (by repeat' first | exact Ld.blk rfl | assumption | apply Ld.skip | apply Ld.app)) ?_
  refine GO_eff rfl rfl (eff_call rfl (Ctr.pick (by repeat' first | exact Pick.here | apply Pick.skip | apply Pick.app) (pop_ctr s l x _ (by omega)))) ?_; rintro _ _ ⟨rfl, rfl⟩
  refine GO_q rfl rfl (ev_move rfl) ?_
  refine GO_q rfl rfl (ev_extract rfl rfl) ?_
  refine GO_q rfl rfl (ev_extract rfl rfl) ?_
  refine GO_q rfl rfl (ev_assign rfl) ?_
  refine GO_q rfl rfl (ev_assign rfl) ?_
  refine GO_nil ?_
  (repeat first | refine G_seq ?_ | refine G_skip ?_ | refine G_endblk ?_ | refine G_block ?_ | refine G_exit rfl ?_)
  refine G_region ?_
  refine GO_q rfl rfl (ev_move rfl) ?_
  refine GO_q rfl rfl (ev_not rfl) ?_
  refine GO_nil ?_
  (repeat first | refine G_seq ?_ | refine G_skip ?_ | refine G_endblk ?_ | refine G_block ?_ | refine G_exit rfl ?_)
  refine G_cond_f rfl rfl ?_
  (repeat first | refine G_seq ?_ | refine G_skip ?_ | refine G_endblk ?_ | refine G_block ?_ | refine G_exit rfl ?_)
  refine G_region ?_
  refine GO_q rfl rfl (ev_move rfl) ?_
  (first | refine GO_q rfl rfl (ev_nilCheck rfl) ?_ | refine GO_q rfl rfl (ev_nilCheckF (by simp) rfl) ?_)
  refine GO_q rfl rfl (ev_fieldAddr rfl) ?_
  refine GO_q rfl rfl (ev_load rfl (by repeat' first | exact Ld.blk rfl | assumption | apply Ld.skip | apply Ld.app)) ?_
  (first | refine GO_q rfl rfl (ev_addN (q := 1) rfl rfl (by first | omega | (simp; done) | (simp; omega))) ?_ | refine GO_q rfl rfl (ev_add rfl rfl (by first | omega | (simp; done) | (simp; omega))) ?_)
  (first | refine GO_q rfl rfl (ev_nilCheck rfl) ?_ | refine GO_q rfl rfl (ev_nilCheckF (by simp) rfl) ?_)
  refine GO_q rfl rfl (ev_fieldAddr rfl) ?_
  refine GO_eff rfl rfl (eff_store rfl rfl rfl (by repeat' first | exact Upd.here rfl | apply Upd.skip | apply Upd.app)) ?_; rintro _ _ ⟨rfl, rfl⟩
  refine GO_nil ?_
  (repeat first | refine G_seq ?_ | refine G_skip ?_ | refine G_endblk ?_ | refine G_block ?_ | refine G_exit rfl ?_)
  refine G_region ?_
  refine GO_q rfl rfl (ev_move rfl) ?_
  (first | refine GO_q rfl rfl (ev_nilCheck rfl) ?_ | refine GO_q rfl rfl (ev_nilCheckF (by simp) rfl) ?_)
  refine GO_q rfl rfl (ev_fieldAddr rfl) ?_
  refine GO_q rfl rfl (ev_load rfl (by repeat' first | exact Ld.blk rfl | assumption | apply Ld.skip | apply Ld.app)) ?_
  refine GO_q rfl rfl (ev_move rfl) ?_
  refine GO_eff rfl rfl (eff_callv rfl rfl (Ctr.pre (M := X.V st :: blk bw 94 (wkC X s (n + 1)) :: stkS s 65536 l :: F :: L) (by (repeat first | exact en_refl | (apply en_blk; focus ((repeat' first | exact Pick.here | apply Pick.skip | apply Pick.app); done); focus rfl) | (apply en_own; focus ((repeat' first | exact Pick.here | apply Pick.skip | apply Pick.app); done); focus rfl) | (apply en_pick; focus ((repeat' first | exact Pick.here | apply Pick.skip | apply Pick.app); done)) | apply en_drop | apply en_app) <;> fail) (hX.visit (blk bw 94 (wkC X s (n + 1)) :: stkS s 65536 l :: F :: L) x st (fun h t => hM h t.tail.tail.tail) hok))) ?_; rintro _ _ ⟨A28, c28, rfl, hA28, rfl⟩
  refine GO_eff rfl rfl (eff_call rfl (KClone_ctr A28 _ c28 (X.kids x) _ (Rc.own (flat_length _) hA28) (by omega))) ?_; rintro _ _ ⟨A29, c29, rfl, hA29, rfl⟩
  refine GO_q rfl rfl (ev_assign rfl) ?_
  refine GO_nil ?_
  (repeat first | refine G_seq ?_ | refine G_skip ?_ | refine G_endblk ?_ | refine G_block ?_ | refine G_exit rfl ?_)
  refine G_region ?_
  refine GO_q rfl rfl (ev_move rfl) ?_
  refine GO_eff rfl rfl (eff_call rfl (Ctr.pick (by repeat' first | exact Pick.here | apply Pick.skip | apply Pick.app) (KReverse_ctr A29 c29 (X.kids x) _ hA29 hk))) ?_; rintro _ _ ⟨rfl, rfl⟩
  refine GO_nil ?_
  (repeat first | refine G_seq ?_ | refine G_skip ?_ | refine G_endblk ?_ | refine G_block ?_ | refine G_exit rfl ?_)
  refine G_region ?_
  refine GO_q rfl rfl (ev_move rfl) ?_
  (first | refine GO_q rfl rfl (ev_nilCheck rfl) ?_ | refine GO_q rfl rfl (ev_nilCheckF (by simp) rfl) ?_)
  refine GO_q rfl rfl (ev_fieldAddr rfl) ?_
  refine GO_q rfl rfl (ev_load rfl (by repeat' first | exact Ld.blk rfl | assumption | apply Ld.skip | apply Ld.app)) ?_
  refine GO_q rfl rfl (ev_move rfl) ?_
  refine GO_eff rfl rfl (eff_call rfl (Ctr.pick (by repeat' first | exact Pick.here | apply Pick.skip | apply Pick.app) (push_ctr s A29 _ c29 l (X.kids x).reverse _ (by repeat' first | exact Rc.own (by rw [flat_length, List.length_reverse]; rfl) hA29 | apply Rd.skip) (by omega)))) ?_; rintro _ _ ⟨rfl, rfl⟩
  refine GO_nil ?_
  (repeat first | refine G_seq ?_ | refine G_skip ?_ | refine G_endblk ?_ | refine G_block ?_ | refine G_exit rfl ?_)
  refine G_region ?_
  refine GO_q rfl rfl (ev_assign rfl) ?_
  refine GO_nil ?_
  (repeat first | refine G_seq ?_ | refine G_skip ?_ | refine G_endblk ?_ | refine G_block ?_ | refine G_exit rfl ?_)
  exact G_ret (L' := blk bw 94 (wkC X s (n + 1)) :: stkS s 65536 (l ++ (X.kids x).reverse) :: X.V (X.upd x st) :: L) rfl (.tmp rfl .nil) (by (repeat first | exact en_refl | (apply en_blk; focus ((repeat' first | exact Pick.here | apply Pick.skip | apply Pick.app); done); focus rfl) | (apply en_own; focus ((repeat' first | exact Pick.here | apply Pick.skip | apply Pick.app); done); focus rfl) | (apply en_pick; focus ((repeat' first | exact Pick.here | apply Pick.skip | apply Pick.app); done)) | apply en_drop | apply en_app) <;> fail) ⟨rfl, rfl⟩
theorem walk1_ctr {S : Type} (X : Vis S) (b8 b4 bw s k r : Nat) (l : List KT) (st : S) (L L0 : List HP) (hX : X.Good L0) (hM : ∀ h, sat L h → sat L0 h) (hI : X.I l st r) (hk : r ≤ 100000000) :
    Ctr Tryz.prog 56 #[.pointer (some ⟨b8, 0, none⟩), .pointer (some ⟨b4, 0, none⟩)] (blk b8 92 [.pointer (some ⟨bw, 0, none⟩)] :: blk b4 3 [.int .i64 (k : Nat)] :: blk bw 94 (wkC X s 0) :: stkS s 65536 l :: X.V st :: L)
      fun v L' => ∃ l' st', X.I l' st' (r - min k r) ∧ L' = blk b8 92 [.pointer (some ⟨bw, 0, none⟩)] :: blk b4 3 [.int .i64 (k : Nat)] :: blk bw 94 (wkC X s (min k r)) :: stkS s 65536 l' :: X.V st' :: L := by
  refine Ctr_of (fn := Tryz.f56) (n := 12) Tryz.func56 rfl rfl rfl ?_
  intro g F
  (repeat first | refine G_seq ?_ | refine G_skip ?_ | refine G_endblk ?_ | refine G_block ?_ | refine G_exit rfl ?_)
  refine G_loop (ι := List KT × S × Nat) (fun _ => [(0, .pointer (some ⟨b8, 0, none⟩)), (1, .pointer (some ⟨b4, 0, none⟩))]) (fun y => blk b8 92 [.pointer (some ⟨bw, 0, none⟩)] :: blk b4 3 [.int .i64 (k : Nat)] :: blk bw 94 (wkC X s y.2.2) :: stkS s 65536 y.1 :: X.V y.2.1 :: F :: L) (fun y => y.2.2 ≤ k ∧ y.2.2 ≤ r ∧ X.I y.1 y.2.1 (r - y.2.2)) (fun y => r - y.2.2) (l, st, 0) ⟨Nat.zero_le _, Nat.zero_le _, hI⟩ ⟨rfl, rfl, trivial⟩ (by (repeat first | exact en_refl | (apply en_blk; focus ((repeat' first | exact Pick.here | apply Pick.skip | apply Pick.app); done); focus rfl) | (apply en_own; focus ((repeat' first | exact Pick.here | apply Pick.skip | apply Pick.app); done); focus rfl) | (apply en_pick; focus ((repeat' first | exact Pick.here | apply Pick.skip | apply Pick.app); done)) | apply en_drop | apply en_app) <;> fail) ?_
  rintro ⟨l1, st1, j⟩ ⟨f1, f2, f3⟩
  simp only at f1 f2 f3
  dsimp only
  by_cases hj : j < k
  · rcases List.eq_nil_or_concat l1 with h | ⟨l0, x, h⟩
    · subst h
      have h0 := hX.stop _ _ f3
      (repeat first | refine G_seq ?_ | refine G_skip ?_ | refine G_endblk ?_ | refine G_block ?_ | refine G_exit rfl ?_)
      refine G_draw (.q 0 (.q 1 (.q 2 (.q 3 (.q 4 (.q 5 (.q 6 (.q 7 (.e 8 (.q 9 .nil)))))))))) (by kernel_rfl) (by kernel_rfl) ?_
      refine RS_q retB_noPanic rfl rfl rfl rfl (ev_load rfl (by repeat' first | exact Ld.blk rfl | assumption | apply Ld.skip | apply Ld.app)) ?_
      (first | refine RS_m retB_noPanic rfl rfl rfl rfl (ev_nilCheck rfl) ?_ | refine RS_m retB_noPanic rfl rfl rfl rfl (ev_nilCheckF (by simp) rfl) ?_)
      refine RS_m retB_noPanic rfl rfl rfl rfl (ev_fieldAddr rfl) ?_
      refine RS_q retB_noPanic rfl rfl rfl rfl (ev_load rfl (by repeat' first | exact Ld.blk rfl | assumption | apply Ld.skip | apply Ld.app)) ?_
      refine RS_q retB_noPanic rfl rfl rfl rfl (ev_load rfl (by repeat' first | exact Ld.blk rfl | assumption | apply Ld.skip | apply Ld.app)) ?_
      (first | refine RS_m retB_noPanic rfl rfl rfl rfl (ev_lssN rfl rfl) ?_ | refine RS_m retB_noPanic rfl rfl rfl rfl (ev_lss rfl rfl) ?_)
      refine RS_m retB_noPanic rfl rfl rfl rfl (ev_move rfl) ?_
      refine RS_q_yes retB_noPanic rfl rfl rfl rfl ⟨_, rfl, (decide_eq_true (by omega))⟩ rfl (ev_load rfl (by repeat' first | exact Ld.blk rfl | assumption | apply Ld.skip | apply Ld.app)) ?_
      refine RS_e (RE_cmp_yes (by kernel_rfl) rfl rfl rfl ⟨_, rfl, (decide_eq_true (by omega))⟩ rfl (eff_call rfl (Ctr.pre (M := blk bw 94 (wkC X s j) :: stkS s 65536 [] :: blk b8 92 [.pointer (some ⟨bw, 0, none⟩)] :: blk b4 3 [.int .i64 (k : Nat)] :: X.V st1 :: F :: L) (by (repeat first | exact en_refl | (apply en_blk; focus ((repeat' first | exact Pick.here | apply Pick.skip | apply Pick.app); done); focus rfl) | (apply en_own; focus ((repeat' first | exact Pick.here | apply Pick.skip | apply Pick.app); done); focus rfl) | (apply en_pick; focus ((repeat' first | exact Pick.here | apply Pick.skip | apply Pick.app); done)) | apply en_drop | apply en_app) <;> fail) (wstep_nil_ctr X bw s j _))) ?_); rintro _ _ ⟨rfl, rfl⟩
      refine RS_m retB_noPanic rfl rfl rfl rfl (ev_pick_t rfl (decide_eq_true (by omega)) rfl) ?_
      refine RS_nil ?_
      (repeat first | refine G_seq ?_ | refine G_skip ?_ | refine G_endblk ?_ | refine G_block ?_ | refine G_exit rfl ?_)
      refine G_cond_f rfl rfl ?_
      (repeat first | refine G_seq ?_ | refine G_skip ?_ | refine G_endblk ?_ | refine G_block ?_ | refine G_exit rfl ?_)
      have e : min k r = j := by omega
      refine G_end (L' := blk b8 92 [.pointer (some ⟨bw, 0, none⟩)] :: blk b4 3 [.int .i64 (k : Nat)] :: blk bw 94 (wkC X s j) :: stkS s 65536 [] :: X.V st1 :: L) rfl .nil (by (repeat first | exact en_refl | (apply en_blk; focus ((repeat' first | exact Pick.here | apply Pick.skip | apply Pick.app); done); focus rfl) | (apply en_own; focus ((repeat' first | exact Pick.here | apply Pick.skip | apply Pick.app); done); focus rfl) | (apply en_pick; focus ((repeat' first | exact Pick.here | apply Pick.skip | apply Pick.app); done)) | apply en_drop | apply en_app) <;> fail) ?_
      rw [e]
      exact ⟨[], st1, f3, rfl⟩
    · rw [List.concat_eq_append] at h
      subst h
      obtain ⟨k1, k2⟩ := hX.cap _ _ _ f3
      obtain ⟨r', e1, e2⟩ := hX.next _ _ _ _ f3
      have k3 := k2 x (List.mem_append.2 (.inr (List.mem_singleton.2 rfl)))
      rw [List.length_append] at k1
      (repeat first | refine G_seq ?_ | refine G_skip ?_ | refine G_endblk ?_ | refine G_block ?_ | refine G_exit rfl ?_)
      refine G_draw (.q 0 (.q 1 (.q 2 (.q 3 (.q 4 (.q 5 (.q 6 (.q 7 (.e 8 (.q 9 .nil)))))))))) (by kernel_rfl) (by kernel_rfl) ?_
      refine RS_q retB_noPanic rfl rfl rfl rfl (ev_load rfl (by repeat' first | exact Ld.blk rfl | assumption | apply Ld.skip | apply Ld.app)) ?_
      (first | refine RS_m retB_noPanic rfl rfl rfl rfl (ev_nilCheck rfl) ?_ | refine RS_m retB_noPanic rfl rfl rfl rfl (ev_nilCheckF (by simp) rfl) ?_)
      refine RS_m retB_noPanic rfl rfl rfl rfl (ev_fieldAddr rfl) ?_
      refine RS_q retB_noPanic rfl rfl rfl rfl (ev_load rfl (by repeat' first | exact Ld.blk rfl | assumption | apply Ld.skip | apply Ld.app)) ?_
      refine RS_q retB_noPanic rfl rfl rfl rfl (ev_load rfl (by repeat' first | exact Ld.blk rfl | assumption | apply Ld.skip | apply Ld.app)) ?_
      (first | refine RS_m retB_noPanic rfl rfl rfl rfl (ev_lssN rfl rfl) ?_ | refine RS_m retB_noPanic rfl rfl rfl rfl (ev_lss rfl rfl) ?_)
      refine RS_m retB_noPanic rfl rfl rfl rfl (ev_move rfl) ?_
      refine RS_q_yes retB_noPanic rfl rfl rfl rfl ⟨_, rfl, (decide_eq_true (by omega))⟩ rfl (ev_load rfl (by repeat' first | exact Ld.blk rfl | assumption | apply Ld.skip | apply Ld.app)) ?_
      refine RS_e (RE_cmp_yes (by kernel_rfl) rfl rfl rfl ⟨_, rfl, (decide_eq_true (by omega))⟩ rfl (eff_call rfl (Ctr.frame [blk b8 92 [.pointer (some ⟨bw, 0, none⟩)], blk b4 3 [.int .i64 (k : Nat)], F] (wstep_ctr X bw s j l0 x st1 L L0 hX hM k3.1 k3.2 (by omega) (by omega)) (by (repeat first | exact en_refl | (apply en_blk; focus ((repeat' first | exact Pick.here | apply Pick.skip | apply Pick.app); done); focus rfl) | (apply en_own; focus ((repeat' first | exact Pick.here | apply Pick.skip | apply Pick.app); done); focus rfl) | (apply en_pick; focus ((repeat' first | exact Pick.here | apply Pick.skip | apply Pick.app); done)) | apply en_drop | apply en_app) <;> fail))) ?_); rintro _ _ ⟨_, ⟨rfl, rfl⟩, rfl⟩
      refine RS_m retB_noPanic rfl rfl rfl rfl (ev_pick_t rfl (decide_eq_true (by omega)) rfl) ?_
      refine RS_nil ?_
      (repeat first | refine G_seq ?_ | refine G_skip ?_ | refine G_endblk ?_ | refine G_block ?_ | refine G_exit rfl ?_)
      refine G_cond_t rfl rfl ?_
      (repeat first | refine G_seq ?_ | refine G_skip ?_ | refine G_endblk ?_ | refine G_block ?_ | refine G_exit rfl ?_)
      exact G_round (l0 ++ (X.kids x).reverse, X.upd x st1, j + 1) ⟨by simp only; omega, by simp only; omega, by simp only; rw [show r - (j + 1) = r' by omega]; exact e2⟩ (by simp only; omega) ⟨rfl, rfl, trivial⟩ (by (repeat first | exact en_refl | (apply en_blk; focus ((repeat' first | exact Pick.here | apply Pick.skip | apply Pick.app); done); focus rfl) | (apply en_own; focus ((repeat' first | exact Pick.here | apply Pick.skip | apply Pick.app); done); focus rfl) | (apply en_pick; focus ((repeat' first | exact Pick.here | apply Pick.skip | apply Pick.app); done)) | apply en_drop | apply en_app) <;> fail)
  · skip
    (repeat first | refine G_seq ?_ | refine G_skip ?_ | refine G_endblk ?_ | refine G_block ?_ | refine G_exit rfl ?_)
    refine G_draw (.q 0 (.q 1 (.q 2 (.q 3 (.q 4 (.q 5 (.q 6 (.q 7 (.e 8 (.q 9 .nil)))))))))) (by kernel_rfl) (by kernel_rfl) ?_
    refine RS_q retB_noPanic rfl rfl rfl rfl (ev_load rfl (by repeat' first | exact Ld.blk rfl | assumption | apply Ld.skip | apply Ld.app)) ?_
    (first | refine RS_m retB_noPanic rfl rfl rfl rfl (ev_nilCheck rfl) ?_ | refine RS_m retB_noPanic rfl rfl rfl rfl (ev_nilCheckF (by simp) rfl) ?_)
    refine RS_m retB_noPanic rfl rfl rfl rfl (ev_fieldAddr rfl) ?_
    refine RS_q retB_noPanic rfl rfl rfl rfl (ev_load rfl (by repeat' first | exact Ld.blk rfl | assumption | apply Ld.skip | apply Ld.app)) ?_
    refine RS_q retB_noPanic rfl rfl rfl rfl (ev_load rfl (by repeat' first | exact Ld.blk rfl | assumption | apply Ld.skip | apply Ld.app)) ?_
    (first | refine RS_m retB_noPanic rfl rfl rfl rfl (ev_lssN rfl rfl) ?_ | refine RS_m retB_noPanic rfl rfl rfl rfl (ev_lss rfl rfl) ?_)
    refine RS_m retB_noPanic rfl rfl rfl rfl (ev_move rfl) ?_
    refine RS_q_no retB_noPanic rfl rfl rfl ⟨_, rfl, (decide_eq_false (by omega))⟩ rfl ?_
    refine RS_e (RE_no rfl rfl rfl ⟨_, rfl, (decide_eq_false (by omega))⟩ rfl ?_)
    refine RS_m retB_noPanic rfl rfl rfl rfl (ev_pick_f rfl (decide_eq_false (by omega)) rfl) ?_
    refine RS_nil ?_
    (repeat first | refine G_seq ?_ | refine G_skip ?_ | refine G_endblk ?_ | refine G_block ?_ | refine G_exit rfl ?_)
    refine G_cond_f rfl rfl ?_
    (repeat first | refine G_seq ?_ | refine G_skip ?_ | refine G_endblk ?_ | refine G_block ?_ | refine G_exit rfl ?_)
    have e : min k r = j := by omega
    refine G_end (L' := blk b8 92 [.pointer (some ⟨bw, 0, none⟩)] :: blk b4 3 [.int .i64 (k : Nat)] :: blk bw 94 (wkC X s j) :: stkS s 65536 l1 :: X.V st1 :: L) rfl .nil (by (repeat first | exact en_refl | (apply en_blk; focus ((repeat' first | exact Pick.here | apply Pick.skip | apply Pick.app); done); focus rfl) | (apply en_own; focus ((repeat' first | exact Pick.here | apply Pick.skip | apply Pick.app); done); focus rfl) | (apply en_pick; focus ((repeat' first | exact Pick.here | apply Pick.skip | apply Pick.app); done)) | apply en_drop | apply en_app) <;> fail) ?_
    rw [e]
    exact ⟨l1, st1, f3, rfl⟩
theorem Walk_ctr {S : Type} (X : Vis S) (s k r : Nat) (l : List KT) (st : S) (L L0 : List HP) (hX : X.Good L0) (hM : ∀ h, sat L h → sat L0 h) (hI : X.I l st r) (hk : r ≤ 100000000) :
    Ctr Tryz.prog 36 #[.pointer (some ⟨s, 0, none⟩), .int .i64 (k : Nat), .func (.func X.f) X.c1.toArray X.c2.toArray] (stkS s 65536 l :: X.V st :: L)
      fun v L' => ∃ l' st', v = .tuple #[.int .i64 (min k r : Nat), .int .i64 0] ∧ X.I l' st' (r - min k r) ∧ L' = stkS s 65536 l' :: X.V st' :: L := by
  refine Ctr_of (fn := Tryz.f36) (n := 36) Tryz.func36 rfl rfl rfl ?_
  intro g F
  (repeat first | refine G_seq ?_ | refine G_skip ?_ | refine G_endblk ?_ | refine G_block ?_ | refine G_exit rfl ?_)
  refine G_region ?_
  refine GO_eff rfl rfl (eff_box rfl) ?_; rintro _ _ ⟨b4, rfl, rfl⟩
  refine GO_q rfl rfl (ev_assign rfl) ?_
  refine GO_q rfl rfl (ev_assign rfl) ?_
  refine GO_nil ?_
  (repeat first | refine G_seq ?_ | refine G_skip ?_ | refine G_endblk ?_ | refine G_block ?_ | refine G_exit rfl ?_)
  refine G_region ?_
  refine GO_q rfl rfl (ev_move rfl) ?_
  (first | refine GO_q rfl rfl (ev_eqlNil rfl rfl) ?_ | refine GO_q rfl rfl (ev_eqlPtr rfl rfl) ?_)
  refine GO_q rfl rfl (ev_move rfl) ?_
  refine GO_yes rfl rfl rfl rfl ?_
  refine GO_q rfl rfl (ev_move rfl) ?_
  refine GO_yes rfl rfl rfl rfl ?_
  refine GO_q rfl rfl (ev_eqlNilF rfl rfl) ?_
  refine GO_q rfl rfl (ev_pick_f rfl rfl rfl) ?_
  refine GO_q rfl rfl (ev_move rfl) ?_
  refine GO_yes rfl rfl rfl rfl ?_
  refine GO_q rfl rfl (ev_load rfl (by repeat' first | exact Ld.blk rfl | assumption | apply Ld.skip | apply Ld.app)) ?_
  refine GO_yes rfl rfl rfl rfl ?_
  (first | refine GO_q rfl rfl (ev_lssN (q := 0) rfl rfl) ?_ | refine GO_q rfl rfl (ev_lss rfl rfl) ?_)
  refine GO_q rfl rfl (ev_pick_f rfl rfl rfl) ?_
  refine GO_nil ?_
  (repeat first | refine G_seq ?_ | refine G_skip ?_ | refine G_endblk ?_ | refine G_block ?_ | refine G_exit rfl ?_)
  refine G_cond_f rfl (decide_eq_false (by omega)) ?_
  (repeat first | refine G_seq ?_ | refine G_skip ?_ | refine G_endblk ?_ | refine G_block ?_ | refine G_exit rfl ?_)
  refine G_region ?_
  refine GO_q rfl rfl (ev_move rfl) ?_
  refine GO_q rfl rfl (ev_move rfl) ?_
  refine GO_q rfl rfl (ev_build rfl rfl) ?_
  refine GO_eff rfl rfl (eff_box rfl) ?_; rintro _ _ ⟨b24, rfl, rfl⟩
  refine GO_eff rfl rfl eff_alloc ?_; rintro _ _ ⟨b8, rfl, rfl⟩
  refine GO_eff rfl rfl (eff_store rfl rfl rfl (by repeat' first | exact Upd.here rfl | apply Upd.skip | apply Upd.app)) ?_; rintro _ _ ⟨rfl, rfl⟩
  refine GO_nil ?_
  (repeat first | refine G_seq ?_ | refine G_skip ?_ | refine G_endblk ?_ | refine G_block ?_ | refine G_exit rfl ?_)
  refine G_region ?_
  refine GO_q rfl rfl (ev_makeFunc rfl rfl) ?_
  refine GO_eff rfl rfl (eff_call rfl (Ctr.frame [F] (Catch_ctr (c1 := []) (c2 := [.pointer (some ⟨b8, 0, none⟩), .pointer (some ⟨b4, 0, none⟩)]) (walk1_ctr X b8 b4 b24 s k r l st L L0 hX hM hI hk)) (by (repeat first | exact en_refl | (apply en_blk; focus ((repeat' first | exact Pick.here | apply Pick.skip | apply Pick.app); done); focus rfl) | (apply en_own; focus ((repeat' first | exact Pick.here | apply Pick.skip | apply Pick.app); done); focus rfl) | (apply en_pick; focus ((repeat' first | exact Pick.here | apply Pick.skip | apply Pick.app); done)) | apply en_drop | apply en_app) <;> fail))) ?_; rintro _ _ ⟨_, ⟨rfl, l', st', hI', rfl⟩, rfl⟩
  refine GO_q rfl rfl (ev_move rfl) ?_
  refine GO_q rfl rfl (ev_extract rfl rfl) ?_
  refine GO_q rfl rfl (ev_extract rfl rfl) ?_
  refine GO_eff rfl rfl eff_alloc ?_; rintro _ _ ⟨b9, rfl, rfl⟩
  refine GO_eff rfl rfl (eff_storeN rfl rfl rfl rfl (by repeat' first | exact Upd.here rfl | apply Upd.skip | apply Upd.app)) ?_; rintro _ _ ⟨rfl, rfl⟩
  refine GO_q rfl rfl (ev_assign rfl) ?_
  refine GO_nil ?_
  (repeat first | refine G_seq ?_ | refine G_skip ?_ | refine G_endblk ?_ | refine G_block ?_ | refine G_exit rfl ?_)
  refine G_draw (.q 0 (.q 1 (.q 2 (.q 3 (.q 4 (.q 5 (.q 6 (.q 7 .nil)))))))) (by kernel_rfl) (by kernel_rfl) ?_
  refine RS_q retB_noPanic rfl rfl rfl rfl (ev_load rfl (by repeat' first | exact Ld.blk rfl | assumption | apply Ld.skip | apply Ld.app)) ?_
  (first | refine RS_m retB_noPanic rfl rfl rfl rfl (ev_nilCheck rfl) ?_ | refine RS_m retB_noPanic rfl rfl rfl rfl (ev_nilCheckF (by simp) rfl) ?_)
  refine RS_m retB_noPanic rfl rfl rfl rfl (ev_fieldAddr rfl) ?_
  refine RS_q retB_noPanic rfl rfl rfl rfl (ev_load rfl (by repeat' first | exact Ld.blk rfl | assumption | apply Ld.skip | apply Ld.app)) ?_
  refine RS_m retB_noPanic rfl rfl rfl rfl (ev_fieldAddr rfl) ?_
  refine RS_q retB_noPanic rfl rfl rfl rfl (ev_load rfl (by repeat' first | exact Ld.blk rfl | assumption | apply Ld.skip | apply Ld.app)) ?_
  refine RS_m retB_noPanic rfl rfl rfl rfl (ev_assign rfl) ?_
  refine RS_m retB_noPanic rfl rfl rfl rfl (ev_assign rfl) ?_
  refine RS_nil ?_
  (repeat first | refine G_seq ?_ | refine G_skip ?_ | refine G_endblk ?_ | refine G_block ?_ | refine G_exit rfl ?_)
  exact G_ret (L' := stkS s 65536 l' :: X.V st' :: L) rfl (.tmp rfl (.tmp rfl .nil)) (by (repeat first | exact en_refl | (apply en_blk; focus ((repeat' first | exact Pick.here | apply Pick.skip | apply Pick.app); done); focus rfl) | (apply en_own; focus ((repeat' first | exact Pick.here | apply Pick.skip | apply Pick.app); done); focus rfl) | (apply en_pick; focus ((repeat' first | exact Pick.here | apply Pick.skip | apply Pick.app); done)) | apply en_drop | apply en_app) <;> fail) ⟨l', st', rfl, hI', rfl⟩
end Go.Proofs.YtjgdhkilnalejaaGreat
/- A list of nodes from which some go. -/
namespace Go.Proofs.YtjgdhkilnalejaaGreat
attribute [local irreducible] sat
open Go.RowKit
set_option linter.unusedVariables false
set_option linter.unusedSimpArgs false
set_option maxRecDepth 100000

theorem KIndex_ctr (f : FuncId) [CalT Tryz.prog f] (c1 c2 : List Value) (p : KT → Bool) (A : Option Addr) (n c : Nat) (l : List KT) (L : List HP) (hl : Rd L A n l) (hn : n ≤ 1000000)
    (hf : ∀ a ∈ l, Ctr Tryz.prog f (c1 ++ [Value.pointer a.addr] ++ c2).toArray L fun v L' => v = .bool (p a) ∧ L' = L) :
    Ctr Tryz.prog 82 #[.slice A n c, .func (.func f) c1.toArray c2.toArray] L fun v L' => ((v = .int .i64 (-1) ∧ l.filter p = []) ∨ ∃ i : Nat, v = .int .i64 (i : Nat) ∧ i < n ∧ (l.take (i + 1)).filter (fun a => !p a) = l.take i) ∧ L' = L := by
  have h1 : l.length = n := hl.len (by decide)
  refine Ctr_of (fn := Tryz.f82) (n := 19) Tryz.func82 rfl rfl rfl ?_
  intro g F
  (repeat first | refine G_seq ?_ | refine G_skip ?_ | refine G_endblk ?_ | refine G_block ?_ | refine G_exit rfl ?_)
  refine G_region ?_
  refine GO_q rfl rfl (ev_assign rfl) ?_
  refine GO_nil ?_
  (repeat first | refine G_seq ?_ | refine G_skip ?_ | refine G_endblk ?_ | refine G_block ?_ | refine G_exit rfl ?_)
  refine G_region ?_
  refine GO_q rfl rfl (ev_move rfl) ?_
  refine GO_q rfl rfl (ev_len rfl) ?_
  refine GO_q rfl rfl (ev_move rfl) ?_
  refine GO_nil ?_
  (repeat first | refine G_seq ?_ | refine G_skip ?_ | refine G_endblk ?_ | refine G_block ?_ | refine G_exit rfl ?_)
  refine G_loop (ι := Nat) (fun k => [(0, .slice A n c), (1, .func (.func f) c1.toArray c2.toArray), (7, .int .i64 (n : Nat)), (8, .int .i64 (k : Nat))]) (fun _ => F :: L) (fun k => k ≤ n ∧ (l.take k).filter p = []) (fun k => n - k) 0 ⟨Nat.zero_le _, by simp⟩ ⟨rfl, rfl, rfl, rfl, trivial⟩ (by (repeat first | exact fun _ s => s | apply en_keep | apply en_drop | apply en_app) <;> fail) ?_
  rintro k ⟨hk, ht⟩
  (repeat first | refine G_seq ?_ | refine G_skip ?_ | refine G_endblk ?_ | refine G_block ?_ | refine G_exit rfl ?_)
  refine G_region ?_
  (first | refine GO_q rfl rfl (ev_lssN rfl rfl) ?_ | refine GO_q rfl rfl (ev_lss rfl rfl) ?_)
  refine GO_nil ?_
  (repeat first | refine G_seq ?_ | refine G_skip ?_ | refine G_endblk ?_ | refine G_block ?_ | refine G_exit rfl ?_)
  refine G_cond rfl (fun h4 => ?_) (fun h4 => ?_)
  · obtain ⟨b1, o1, rfl, x1⟩ := hl.at_ (by omega)
    have g1 : l[k]? = some l[k] := List.getElem?_eq_getElem (by omega)
    have y1 := (x1 _ _ g1).at_ (i := 0) rfl
    have s1 : l.take (k + 1) = l.take k ++ [l[k]] := List.take_succ_eq_append_getElem (by omega)
    have m1 : l[k] ∈ l := List.getElem_mem _
    have hu := hf _ m1
    generalize l[k] = u at *
    have z1 : Ld L ⟨b1, o1 + k * 1, none⟩ (.pointer u.addr) := y1
    (repeat first | refine G_seq ?_ | refine G_skip ?_ | refine G_endblk ?_ | refine G_block ?_ | refine G_exit rfl ?_)
    refine G_region ?_
    refine GO_q rfl rfl (ev_move rfl) ?_
    refine GO_q rfl rfl (ev_assign rfl) ?_
    refine GO_nil ?_
    (repeat first | refine G_seq ?_ | refine G_skip ?_ | refine G_endblk ?_ | refine G_block ?_ | refine G_exit rfl ?_)
    refine G_region ?_
    refine GO_q rfl rfl (ev_move rfl) ?_
    refine GO_q rfl rfl (ev_move rfl) ?_
    refine GO_q rfl rfl (ev_move rfl) ?_
    (first | refine GO_q rfl rfl (ev_indexAddrN rfl rfl (by first | omega | (simp; done) | (simp; omega))) ?_ | refine GO_q rfl rfl (ev_indexAddr rfl rfl (by first | omega | (simp; done) | (simp; omega)) (by first | omega | (simp; done) | (simp; omega))) ?_)
    refine GO_q rfl rfl (ev_load rfl (by repeat' first | exact Ld.blk rfl | assumption | apply Ld.skip | apply Ld.app)) ?_
    refine GO_eff rfl rfl (eff_callv rfl rfl (Ctr.frame [F] hu en_refl)) ?_; rintro _ _ ⟨_, ⟨rfl, rfl⟩, rfl⟩
    refine GO_nil ?_
    (repeat first | refine G_seq ?_ | refine G_skip ?_ | refine G_endblk ?_ | refine G_block ?_ | refine G_exit rfl ?_)
    refine G_condB rfl (fun h5 => ?_) (fun h5 => ?_)
    · (repeat first | refine G_seq ?_ | refine G_skip ?_ | refine G_endblk ?_ | refine G_block ?_ | refine G_exit rfl ?_)
      refine G_region ?_
      refine GO_q rfl rfl (ev_move rfl) ?_
      refine GO_q rfl rfl (ev_assign rfl) ?_
      refine GO_nil ?_
      (repeat first | refine G_seq ?_ | refine G_skip ?_ | refine G_endblk ?_ | refine G_block ?_ | refine G_exit rfl ?_)
      refine G_ret rfl (.tmp rfl .nil) (by (repeat first | exact fun _ s => s | apply en_keep | apply en_drop | apply en_app) <;> fail) ⟨.inr ⟨k, rfl, by omega, by
        rw [s1, List.filter_append]
        have e1 : (l.take k).filter (fun a => !p a) = l.take k := List.filter_eq_self.2 fun a ha => by
          have := List.filter_eq_nil_iff.1 ht a ha
          simpa using this
        rw [e1]; simp [h5]⟩, rfl⟩
    · (repeat first | refine G_seq ?_ | refine G_skip ?_ | refine G_endblk ?_ | refine G_block ?_ | refine G_exit rfl ?_)
      refine G_region ?_
      (first | refine GO_q rfl rfl (ev_addN (q := 1) rfl rfl (by first | omega | (simp; done) | (simp; omega))) ?_ | refine GO_q rfl rfl (ev_add rfl rfl (by first | omega | (simp; done) | (simp; omega))) ?_)
      refine GO_q rfl rfl (ev_move rfl) ?_
      refine GO_nil ?_
      (repeat first | refine G_seq ?_ | refine G_skip ?_ | refine G_endblk ?_ | refine G_block ?_ | refine G_exit rfl ?_)
      exact G_round (k + 1) ⟨by omega, by rw [s1, List.filter_append, ht]; simpa using h5⟩ (by omega) ⟨rfl, rfl, rfl, rfl, trivial⟩ (by (repeat first | exact fun _ s => s | apply en_keep | apply en_drop | apply en_app) <;> fail)
  · have e : k = n := by omega
    subst e
    rw [← h1, List.take_length] at ht
    (repeat first | refine G_seq ?_ | refine G_skip ?_ | refine G_endblk ?_ | refine G_block ?_ | refine G_exit rfl ?_)
    refine G_region ?_
    refine GO_q rfl rfl (ev_assign rfl) ?_
    refine GO_nil ?_
    (repeat first | refine G_seq ?_ | refine G_skip ?_ | refine G_endblk ?_ | refine G_block ?_ | refine G_exit rfl ?_)
    refine G_ret rfl (.tmp rfl .nil) (by (repeat first | exact fun _ s => s | apply en_keep | apply en_drop | apply en_app) <;> fail) ⟨.inl ⟨rfl, ht⟩, rfl⟩
theorem flat_set1 (u : KT) : ∀ (l : List KT) (i : Nat), (flat l : List Value).set i (.pointer u.addr) = flat (l.set i u)
  | [], _ => rfl
  | x :: l, 0 => rfl
  | x :: l, i + 1 => by
    have := flat_set1 u l i
    rw [List.set_cons_succ, flat_cons, flat_cons]
    show Value.pointer x.addr :: (flat l).set i _ = _
    rw [this]; rfl
theorem KDelF_ctr (f : FuncId) [CalT Tryz.prog f] (c1 c2 : List Value) (p : KT → Bool) (A : Option Addr) (n c : Nat) (l : List KT) (L : List HP) (hA : 0 < n → ∃ b, A = some ⟨b, 0, none⟩) (h1 : l.length = n) (hn : n ≤ 1000000)
    (hf : ∀ a ∈ l, Ctr Tryz.prog f (c1 ++ [Value.pointer a.addr] ++ c2).toArray L fun v L' => v = .bool (p a) ∧ L' = L) :
    Ctr Tryz.prog 60 #[.slice A n c, .func (.func f) c1.toArray c2.toArray] (own 33 1 A n c (flat l) :: L) fun v L' => Made 33 (l.filter fun a => !p a) L v L' := by
  have hF : (flat l).length = n * 1 := by rw [flat_length, h1]; rfl
  have hfr : ∀ F a, a ∈ l → ∀ xs, Ctr Tryz.prog f (c1 ++ [Value.pointer a.addr] ++ c2).toArray (own 33 1 A n c xs :: F :: L) fun v L' => v = .bool (p a) ∧ L' = own 33 1 A n c xs :: F :: L := fun F a ha xs =>
    (Ctr.frame [own 33 1 A n c xs, F] (hf a ha) (fun _ s => s)).mono fun v L' ⟨M, ⟨e1, e2⟩, e3⟩ => ⟨e1, by rw [e3, e2]; rfl⟩
  have hix := fun F => KIndex_ctr f c1 c2 p A n c l (own 33 1 A n c (flat l) :: F :: L) (Rc.own hF hA) hn (fun a ha => hfr F a ha _)
  refine Ctr_of (fn := Tryz.f60) (n := 42) Tryz.func60 rfl rfl rfl ?_
  intro g F
  refine G_heap (L' := own 33 1 A n c (flat l) :: F :: L) (by (repeat first | exact en_refl | (apply en_blk; focus ((repeat' first | exact Pick.here | apply Pick.skip | apply Pick.app); done); focus rfl) | (apply en_own; focus ((repeat' first | exact Pick.here | apply Pick.skip | apply Pick.app); done); focus rfl) | (apply en_pick; focus ((repeat' first | exact Pick.here | apply Pick.skip | apply Pick.app); done)) | apply en_drop | apply en_app) <;> fail) ?_
  refine G_pure (fun h s => own.facts s) ?_
  rintro ⟨f1, f2, f3, f4⟩
  (repeat first | refine G_seq ?_ | refine G_skip ?_ | refine G_endblk ?_ | refine G_block ?_ | refine G_exit rfl ?_)
  refine G_region ?_
  refine GO_q rfl rfl (ev_assign rfl) ?_
  refine GO_nil ?_
  (repeat first | refine G_seq ?_ | refine G_skip ?_ | refine G_endblk ?_ | refine G_block ?_ | refine G_exit rfl ?_)
  refine G_region ?_
  refine GO_q rfl rfl (ev_move rfl) ?_
  refine GO_q rfl rfl (ev_move rfl) ?_
  refine GO_eff rfl rfl (eff_call rfl (hix F)) ?_; rintro _ _ ⟨hv, rfl⟩
  refine GO_q rfl rfl (ev_assign rfl) ?_
  refine GO_nil ?_
  rcases hv with ⟨rfl, hnil⟩ | ⟨i, rfl, hi, hti⟩
  · have e : l.filter (fun a => !p a) = l := List.filter_eq_self.2 fun a ha => by
      have := List.filter_eq_nil_iff.1 hnil a ha
      simpa using this
    rw [e]
    subst h1
    (repeat first | refine G_seq ?_ | refine G_skip ?_ | refine G_endblk ?_ | refine G_block ?_ | refine G_exit rfl ?_)
    refine G_region ?_
    refine GO_q rfl rfl (ev_move rfl) ?_
    refine GO_q rfl rfl (ev_eql rfl rfl) ?_
    refine GO_nil ?_
    (repeat first | refine G_seq ?_ | refine G_skip ?_ | refine G_endblk ?_ | refine G_block ?_ | refine G_exit rfl ?_)
    refine G_cond_t rfl rfl ?_
    (repeat first | refine G_seq ?_ | refine G_skip ?_ | refine G_endblk ?_ | refine G_block ?_ | refine G_exit rfl ?_)
    refine G_region ?_
    refine GO_q rfl rfl (ev_move rfl) ?_
    refine GO_q rfl rfl (ev_assign rfl) ?_
    refine GO_nil ?_
    (repeat first | refine G_seq ?_ | refine G_skip ?_ | refine G_endblk ?_ | refine G_block ?_ | refine G_exit rfl ?_)
    exact G_ret (L' := own 33 1 A l.length c (flat l) :: L) rfl (.tmp rfl .nil) (by (repeat first | exact en_refl | (apply en_blk; focus ((repeat' first | exact Pick.here | apply Pick.skip | apply Pick.app); done); focus rfl) | (apply en_own; focus ((repeat' first | exact Pick.here | apply Pick.skip | apply Pick.app); done); focus rfl) | (apply en_pick; focus ((repeat' first | exact Pick.here | apply Pick.skip | apply Pick.app); done)) | apply en_drop | apply en_app) <;> fail) ⟨A, c, rfl, hA, rfl⟩
  · obtain ⟨b, rfl⟩ := hA (by omega)
    have g0 : l.take i ++ ([l[i]] ++ l.drop (i + 1)) = l := by
      rw [List.singleton_append, List.getElem_cons_drop, List.take_append_drop]
    have hti2 : (l.take i).length = i := by rw [List.length_take]; omega
    (repeat first | refine G_seq ?_ | refine G_skip ?_ | refine G_endblk ?_ | refine G_block ?_ | refine G_exit rfl ?_)
    refine G_region ?_
    refine GO_q rfl rfl (ev_move rfl) ?_
    refine GO_q rfl rfl (ev_eql rfl rfl) ?_
    refine GO_nil ?_
    (repeat first | refine G_seq ?_ | refine G_skip ?_ | refine G_endblk ?_ | refine G_block ?_ | refine G_exit rfl ?_)
    refine G_cond_f rfl (decide_eq_false (by omega)) ?_
    (repeat first | refine G_seq ?_ | refine G_skip ?_ | refine G_endblk ?_ | refine G_block ?_ | refine G_exit rfl ?_)
    refine G_region ?_
    refine GO_q rfl rfl (ev_move rfl) ?_
    (first | refine GO_q rfl rfl (ev_addN (q := 1) rfl rfl (by first | omega | (simp; done) | (simp; omega))) ?_ | refine GO_q rfl rfl (ev_add rfl rfl (by first | omega | (simp; done) | (simp; omega))) ?_)
    refine GO_q rfl rfl (ev_assign rfl) ?_
    refine GO_nil ?_
    (repeat first | refine G_seq ?_ | refine G_skip ?_ | refine G_endblk ?_ | refine G_block ?_ | refine G_exit rfl ?_)
    refine G_loop (ι := Nat × List KT × List KT) (fun y => [(0, .slice (some ⟨b, 0, none⟩) n c), (1, .func (.func f) c1.toArray c2.toArray), (5, .int .i64 (y.2.1.length : Nat)), (6, .int .i64 (y.1 : Nat))]) (fun y => own 33 1 (some ⟨b, 0, none⟩) n c (flat (y.2.1 ++ (y.2.2 ++ l.drop y.1))) :: F :: L)
      (fun y => y.1 ≤ n ∧ y.2.1 = (l.take y.1).filter (fun a => !p a) ∧ y.2.1.length + y.2.2.length = y.1 ∧ 0 < y.2.2.length) (fun y => n - y.1) (i + 1, l.take i, [l[i]]) ⟨by show i + 1 ≤ n; omega, hti.symm, by show (l.take i).length + 1 = i + 1; omega, Nat.one_pos⟩ ⟨rfl, rfl, by show _ = some (Value.int .i64 ((l.take i).length : Nat)); rw [hti2]; rfl, rfl, trivial⟩ (by dsimp only; rw [g0]; exact fun _ s => s) ?_
    rintro ⟨j, kp, md⟩ ⟨e1, e2, e3, e4⟩
    simp only at e1 e2 e3 e4
    dsimp only
    have hlen : (kp ++ (md ++ l.drop j)).length = n := by simp; omega
    (repeat first | refine G_seq ?_ | refine G_skip ?_ | refine G_endblk ?_ | refine G_block ?_ | refine G_exit rfl ?_)
    refine G_region ?_
    refine GO_q rfl rfl (ev_move rfl) ?_
    refine GO_q rfl rfl (ev_move rfl) ?_
    refine GO_q rfl rfl (ev_len rfl) ?_
    (first | refine GO_q rfl rfl (ev_lssN rfl rfl) ?_ | refine GO_q rfl rfl (ev_lss rfl rfl) ?_)
    refine GO_nil ?_
    (repeat first | refine G_seq ?_ | refine G_skip ?_ | refine G_endblk ?_ | refine G_block ?_ | refine G_exit rfl ?_)
    refine G_cond rfl (fun c5 => ?_) (fun c5 => ?_)
    · have hj : j < l.length := by omega
      have gj : (kp ++ (md ++ l.drop j))[j]? = some l[j] := by
        rw [← List.append_assoc, List.getElem?_append_right (by simp; omega), List.getElem?_drop]
        simp only [List.length_append]
        rw [show j + (j - (kp.length + md.length)) = j by omega]
        exact List.getElem?_eq_getElem hj
      have s1 : l.take (j + 1) = l.take j ++ [l[j]] := List.take_succ_eq_append_getElem hj
      have d1 : l.drop j = l[j] :: l.drop (j + 1) := (List.getElem_cons_drop hj).symm
      have m1 : l[j] ∈ l := List.getElem_mem _
      have hu := fun xs => hfr F _ m1 xs
      generalize l[j] = u at *
      rw [d1] at gj hlen ⊢
      have z1 : ∀ M, Ld (own 33 1 (some ⟨b, 0, none⟩) n c (flat (kp ++ (md ++ u :: l.drop (j + 1)))) :: M) ⟨b, 0 + j * 1, none⟩ (.pointer u.addr) := fun M => by
        have hr : Rd (own 33 1 (some ⟨b, 0, none⟩) n c (flat (kp ++ (md ++ u :: l.drop (j + 1)))) :: M) (some ⟨b, 0, none⟩) n (kp ++ (md ++ u :: l.drop (j + 1))) := Rc.own (by rw [flat_length, hlen]; rfl) (fun _ => ⟨b, rfl⟩)
        obtain ⟨_, _, e9, hx⟩ := hr.at_ (by omega)
        cases e9
        exact (hx _ _ gj).at_ (i := 0) rfl
      (repeat first | refine G_seq ?_ | refine G_skip ?_ | refine G_endblk ?_ | refine G_block ?_ | refine G_exit rfl ?_)
      refine G_region ?_
      refine GO_q rfl rfl (ev_move rfl) ?_
      refine GO_q rfl rfl (ev_move rfl) ?_
      (first | refine GO_q rfl rfl (ev_indexAddrN rfl rfl (by first | omega | (simp; done) | (simp; omega))) ?_ | refine GO_q rfl rfl (ev_indexAddr rfl rfl (by first | omega | (simp; done) | (simp; omega)) (by first | omega | (simp; done) | (simp; omega))) ?_)
      refine GO_q rfl rfl (ev_load rfl (by repeat' first | exact z1 _ | apply Ld.skip)) ?_
      refine GO_q rfl rfl (ev_assign rfl) ?_
      refine GO_nil ?_
      (repeat first | refine G_seq ?_ | refine G_skip ?_ | refine G_endblk ?_ | refine G_block ?_ | refine G_exit rfl ?_)
      refine G_region ?_
      refine GO_q rfl rfl (ev_move rfl) ?_
      refine GO_q rfl rfl (ev_move rfl) ?_
      refine GO_eff rfl rfl (eff_callv rfl rfl (hu _)) ?_; rintro _ _ ⟨rfl, rfl⟩
      refine GO_q rfl rfl (ev_not rfl) ?_
      refine GO_nil ?_
      cases hp : p u with
      | true =>
        (repeat first | refine G_seq ?_ | refine G_skip ?_ | refine G_endblk ?_ | refine G_block ?_ | refine G_exit rfl ?_)
        refine G_cond_f rfl rfl ?_
        (repeat first | refine G_seq ?_ | refine G_skip ?_ | refine G_endblk ?_ | refine G_block ?_ | refine G_exit rfl ?_)
        refine G_region ?_
        refine GO_q rfl rfl (ev_move rfl) ?_
        (first | refine GO_q rfl rfl (ev_addN (q := 1) rfl rfl (by first | omega | (simp; done) | (simp; omega))) ?_ | refine GO_q rfl rfl (ev_add rfl rfl (by first | omega | (simp; done) | (simp; omega))) ?_)
        refine GO_q rfl rfl (ev_assign rfl) ?_
        refine GO_nil ?_
        (repeat first | refine G_seq ?_ | refine G_skip ?_ | refine G_endblk ?_ | refine G_block ?_ | refine G_exit rfl ?_)
        refine G_round (j + 1, kp, md ++ [u]) ⟨by show j + 1 ≤ n; omega, by show kp = _; rw [s1, List.filter_append, ← e2]; simp [hp], by simp; omega, by simp⟩ (by show n - (j + 1) < n - j; omega) ⟨rfl, rfl, rfl, rfl, trivial⟩ ?_
        show ∀ h, _ → sat (own 33 1 (some ⟨b, 0, none⟩) n c (flat (kp ++ ((md ++ [u]) ++ l.drop (j + 1)))) :: F :: L) h
        rw [List.append_assoc md, List.singleton_append]
        exact (by (repeat first | exact fun _ s => s | apply en_keep | apply en_drop | apply en_app) <;> fail)
      | false =>
        cases md with
        | nil => exact absurd e4 (by decide)
        | cons m0 md =>
          (repeat first | refine G_seq ?_ | refine G_skip ?_ | refine G_endblk ?_ | refine G_block ?_ | refine G_exit rfl ?_)
          refine G_cond_t rfl rfl ?_
          (repeat first | refine G_seq ?_ | refine G_skip ?_ | refine G_endblk ?_ | refine G_block ?_ | refine G_exit rfl ?_)
          refine G_region ?_
          refine GO_q rfl rfl (ev_move rfl) ?_
          refine GO_q rfl rfl (ev_move rfl) ?_
          refine GO_q rfl rfl (ev_move rfl) ?_
          (first | refine GO_q rfl rfl (ev_indexAddrN rfl rfl (by first | omega | (simp; done) | (simp; omega))) ?_ | refine GO_q rfl rfl (ev_indexAddr rfl rfl (by first | omega | (simp; done) | (simp; omega)) (by first | omega | (simp; done) | (simp; omega))) ?_)
          refine GO_eff rfl rfl (eff_storeO rfl rfl rfl (by repeat' first | exact Pick.here | apply Pick.skip | apply Pick.app) (by simp at e3; omega)) ?_; rintro _ _ ⟨rfl, rfl⟩
          refine GO_nil ?_
          (repeat first | refine G_seq ?_ | refine G_skip ?_ | refine G_endblk ?_ | refine G_block ?_ | refine G_exit rfl ?_)
          refine G_region ?_
          refine GO_q rfl rfl (ev_move rfl) ?_
          (first | refine GO_q rfl rfl (ev_addN (q := 1) rfl rfl (by first | omega | (simp; done) | (simp; omega))) ?_ | refine GO_q rfl rfl (ev_add rfl rfl (by first | omega | (simp; done) | (simp; omega))) ?_)
          refine GO_q rfl rfl (ev_assign rfl) ?_
          refine GO_nil ?_
          (repeat first | refine G_seq ?_ | refine G_skip ?_ | refine G_endblk ?_ | refine G_block ?_ | refine G_exit rfl ?_)
          have es : (flat (kp ++ ((m0 :: md) ++ u :: l.drop (j + 1))) : List Value).set (0 + kp.length * 1) (.pointer u.addr) = flat ((kp ++ [u]) ++ ((md ++ [u]) ++ l.drop (j + 1))) := by
            rw [show 0 + kp.length * 1 = kp.length by omega, flat_set1]
            congr 1
            simp [List.set_append]
          (repeat first | refine G_seq ?_ | refine G_skip ?_ | refine G_endblk ?_ | refine G_block ?_ | refine G_exit rfl ?_)
          refine G_region ?_
          refine GO_q rfl rfl (ev_move rfl) ?_
          (first | refine GO_q rfl rfl (ev_addN (q := 1) rfl rfl (by first | omega | (simp; done) | (simp; omega))) ?_ | refine GO_q rfl rfl (ev_add rfl rfl (by first | omega | (simp; done) | (simp; omega))) ?_)
          refine GO_q rfl rfl (ev_assign rfl) ?_
          refine GO_nil ?_
          (repeat first | refine G_seq ?_ | refine G_skip ?_ | refine G_endblk ?_ | refine G_block ?_ | refine G_exit rfl ?_)
          refine G_round (j + 1, kp ++ [u], md ++ [u]) ⟨by show j + 1 ≤ n; omega, by show kp ++ [u] = _; rw [s1, List.filter_append, ← e2]; simp [hp], by simp at e3 ⊢; omega, by simp⟩ (by show n - (j + 1) < n - j; omega) ⟨rfl, rfl, by show _ = some (Value.int .i64 ((kp ++ [u]).length : Nat)); rw [List.length_append]; rfl, rfl, trivial⟩ ?_
          show ∀ h, _ → sat (own 33 1 (some ⟨b, 0, none⟩) n c (flat ((kp ++ [u]) ++ ((md ++ [u]) ++ l.drop (j + 1)))) :: F :: L) h
          rw [← es]
          exact (by (repeat first | exact fun _ s => s | apply en_keep | apply en_drop | apply en_app) <;> fail)
    · have ej : j = n := by omega
      subst ej
      have ek : kp = l.filter fun a => !p a := by rw [e2, ← h1, List.take_length]
      rw [← ek]
      clear hix hfr
      refine G_heap (L' := own 33 1 (some ⟨b, 0, none⟩) kp.length c (flat kp) :: F :: L) (en_less .here (by omega) (by rw [flat_append]; exact List.take_left' (flat_length _)) en_refl) ?_
      (repeat first | refine G_seq ?_ | refine G_skip ?_ | refine G_endblk ?_ | refine G_block ?_ | refine G_exit rfl ?_)
      refine G_region ?_
      refine GO_q rfl rfl (ev_move rfl) ?_
      refine GO_q rfl rfl (ev_move rfl) ?_
      refine GO_q rfl rfl (ev_sliceL rfl rfl (by first | omega | (simp; done) | (simp; omega)) (by first | omega | (simp; done) | (simp; omega))) ?_
      refine GO_eff rfl rfl (eff_clear (k := kp.length) rfl rfl rfl (by repeat' first | exact Pick.here | apply Pick.skip | apply Pick.app) (fun _ => by rw [if_neg (by omega)]; omega) (by omega) (by omega)) ?_; rintro _ _ ⟨rfl, rfl⟩
      refine GO_nil ?_
      (repeat first | refine G_seq ?_ | refine G_skip ?_ | refine G_endblk ?_ | refine G_block ?_ | refine G_exit rfl ?_)
      refine G_region ?_
      refine GO_q rfl rfl (ev_move rfl) ?_
      refine GO_q rfl rfl (ev_move rfl) ?_
      refine GO_q rfl rfl (ev_sliceH rfl rfl (by first | omega | (simp; done) | (simp; omega))) ?_
      refine GO_q rfl rfl (ev_assign rfl) ?_
      refine GO_nil ?_
      (repeat first | refine G_seq ?_ | refine G_skip ?_ | refine G_endblk ?_ | refine G_block ?_ | refine G_exit rfl ?_)
      exact G_ret (L' := own 33 1 (some ⟨b, 0, none⟩) kp.length c (flat kp) :: L) rfl (.tmp rfl .nil) (by (repeat first | exact en_refl | (apply en_blk; focus ((repeat' first | exact Pick.here | apply Pick.skip | apply Pick.app); done); focus rfl) | (apply en_own; focus ((repeat' first | exact Pick.here | apply Pick.skip | apply Pick.app); done); focus rfl) | (apply en_pick; focus ((repeat' first | exact Pick.here | apply Pick.skip | apply Pick.app); done)) | apply en_drop | apply en_app) <;> fail) ⟨some ⟨b, 0, none⟩, c, rfl, fun _ => ⟨b, rfl⟩, rfl⟩
end Go.Proofs.YtjgdhkilnalejaaGreat
/- A cursor over a tree of points by two orders: the plain part. -/
namespace Go.Proofs.YtjgdhkilnalejaaGreat
set_option linter.unusedVariables false
set_option linter.unusedSimpArgs false

def KT.bx' : KT → Bx
  | .nil => ⟨0, 0, 0, 0⟩
  | .node _ _ _ _ x _ _ => x
def KT.kds : KT → List KT
  | .nil => []
  | .node _ _ _ _ _ lo hi => [lo, hi].filter fun a => a.addr.isSome
def KT.nxK (w : Bx) (T : KT) : List KT := T.kds.filter fun a => meets w a.bx'
def KT.idK (w : Bx) : KT → List Int
  | .nil => []
  | .node _ p g _ _ _ _ => if !g && w.has p.x p.y then [p.id] else []
def KT.lkK (w : Bx) : KT → Nat
  | .nil => 0
  | .node _ _ _ _ _ lo hi => 1 + ((if meets w lo.bx' then lo.lkK w else 0) + (if meets w hi.bx' then hi.lkK w else 0))
def KT.fdK (w : Bx) : KT → List Int
  | .nil => []
  | .node b p g m x lo hi => (KT.node b p g m x lo hi).idK w ++ ((if meets w lo.bx' then lo.fdK w else []) ++ (if meets w hi.bx' then hi.fdK w else []))
def lkL (w : Bx) (l : List KT) : Nat := (l.map (KT.lkK w)).sum
def fdL (w : Bx) (l : List KT) : List Int := l.flatMap (KT.fdK w)
theorem lkL_app (w : Bx) (l m : List KT) : lkL w (l ++ m) = lkL w l + lkL w m := by simp [lkL]
theorem fdL_app (w : Bx) (l m : List KT) : fdL w (l ++ m) = fdL w l ++ fdL w m := by simp [fdL]
theorem lkL_rev (w : Bx) (l : List KT) : lkL w l.reverse = lkL w l := by simp [lkL, List.map_reverse, List.sum_reverse]
theorem lkL_one (w : Bx) (k : KT) : lkL w ((([k].filter fun a => a.addr.isSome)).filter fun a => meets w a.bx') = if meets w k.bx' then k.lkK w else 0 := by
  cases k with
  | nil => simp [KT.addr, lkL, KT.lkK]
  | node b p g m x lo hi =>
    simp only [KT.addr, Option.isSome, List.filter_cons, List.filter_nil, if_true]
    split <;> simp [lkL]
theorem fdL_one (w : Bx) (k : KT) : fdL w ((([k].filter fun a => a.addr.isSome)).filter fun a => meets w a.bx') = if meets w k.bx' then k.fdK w else [] := by
  cases k with
  | nil => simp [KT.addr, fdL, KT.fdK]
  | node b p g m x lo hi =>
    simp only [KT.addr, Option.isSome, List.filter_cons, List.filter_nil, if_true]
    split <;> simp [fdL]
theorem KT.lk_eq {w : Bx} {T : KT} (h : T.addr.isSome = true) : T.lkK w = 1 + lkL w (T.nxK w) := by
  cases T with
  | nil => cases h
  | node b p g m x lo hi =>
    show _ = 1 + lkL w (([lo, hi].filter fun a => a.addr.isSome).filter fun a => meets w a.bx')
    rw [show [lo, hi] = [lo] ++ [hi] from rfl, List.filter_append, List.filter_append, lkL_app, lkL_one, lkL_one]
    rfl
theorem KT.fd_eq {w : Bx} {T : KT} (h : T.addr.isSome = true) : T.fdK w = T.idK w ++ fdL w (T.nxK w) := by
  cases T with
  | nil => cases h
  | node b p g m x lo hi =>
    show _ = KT.idK w _ ++ fdL w (([lo, hi].filter fun a => a.addr.isSome).filter fun a => meets w a.bx')
    rw [show [lo, hi] = [lo] ++ [hi] from rfl, List.filter_append, List.filter_append, fdL_app, fdL_one, fdL_one]
    rfl
theorem KT.lk_cnt (w : Bx) : ∀ T : KT, T.lkK w ≤ T.cnt
  | .nil => Nat.le_refl _
  | .node b p g m x lo hi => by
    have h1 := lo.lk_cnt w
    have h2 := hi.lk_cnt w
    simp only [KT.lkK, KT.cnt]
    split <;> split <;> omega
theorem KT.kds_len (T : KT) : T.kds.length ≤ 2 := by
  cases T with
  | nil => simp [KT.kds]
  | node b p g m x lo hi => exact List.length_filter_le (fun a : KT => a.addr.isSome) [lo, hi]
theorem KT.nxK_len (w : Bx) (T : KT) : (T.nxK w).length ≤ 2 := Nat.le_trans (List.length_filter_le _ _) T.kds_len
theorem KT.kds_mem {T x : KT} (h : x ∈ T.kds) : x.addr.isSome = true ∧ x.cnt ≤ T.cnt := by
  cases T with
  | nil => simp [KT.kds] at h
  | node b p g m x' lo hi =>
    unfold KT.kds at h
    obtain ⟨h1, h2⟩ := List.mem_filter.1 h
    refine ⟨h2, ?_⟩
    simp only [List.mem_cons, List.not_mem_nil, or_false] at h1
    simp only [KT.cnt]
    rcases h1 with rfl | rfl <;> omega
theorem KT.nxK_mem {w : Bx} {T x : KT} (h : x ∈ T.nxK w) : x.addr.isSome = true ∧ x.cnt ≤ T.cnt := KT.kds_mem (List.mem_filter.1 h).1
theorem KT.lk_pos {w : Bx} {x : KT} (h : x.addr.isSome = true) : 1 ≤ x.lkK w := by rw [KT.lk_eq h]; omega
theorem lkL_len {w : Bx} : ∀ {l : List KT}, (∀ x ∈ l, x.addr.isSome = true) → l.length ≤ lkL w l
  | [], _ => Nat.le_refl _
  | x :: l, h => by
    have h1 := lkL_len (w := w) (l := l) fun y hy => h y (List.mem_cons_of_mem _ hy)
    have h2 := KT.lk_pos (w := w) (h x (by simp))
    simp only [lkL, List.map_cons, List.sum_cons, List.length_cons] at h1 ⊢
    omega
theorem KT.ok.none {w : Bx} {T : KT} {lv : Nat} (h : T.ok lv) (hm : meets w T.bx' = false) : (T.pts.filter (inB w)).map (·.id) = [] := by
  cases T with
  | nil => rfl
  | node b p g m x lo hi =>
    have : (KT.node b p g m x lo hi).pts.filter (inB w) = [] := List.filter_eq_nil_iff.2 fun q hq => by
      have := no_meet hm (h.inX _ _ _ _ _ _ _ rfl q ((KT.pts_sub _).subset hq))
      rw [this]; simp
    rw [this]; rfl
theorem KT.ok.fd {w : Bx} : ∀ {T : KT} {lv : Nat}, T.ok lv → T.fdK w = (T.pts.filter (inB w)).map (·.id)
  | .nil, _, _ => rfl
  | .node b p g m x lo hi, lv, h => by
    have h1 := h.2.2.1.fd (w := w)
    have h2 := h.2.2.2.fd (w := w)
    have e1 : (if meets w lo.bx' then lo.fdK w else []) = (lo.pts.filter (inB w)).map (·.id) := by
      cases hm : meets w lo.bx' with
      | true => rw [if_pos rfl, h1]
      | false => rw [if_neg (by simp), h.2.2.1.none hm]
    have e2 : (if meets w hi.bx' then hi.fdK w else []) = (hi.pts.filter (inB w)).map (·.id) := by
      cases hm : meets w hi.bx' with
      | true => rw [if_pos rfl, h2]
      | false => rw [if_neg (by simp), h.2.2.2.none hm]
    unfold KT.fdK
    rw [e1, e2]
    simp only [KT.pts, List.filter_append, List.map_append]
    congr 1
    unfold KT.idK inB
    cases g <;> by_cases hb : w.has p.x p.y = true <;> simp [hb]
end Go.Proofs.YtjgdhkilnalejaaGreat
/- A cursor over a tree of points by two orders: what lies in memory. -/
namespace Go.Proofs.YtjgdhkilnalejaaGreat
set_option linter.unusedVariables false
set_option linter.unusedSimpArgs false

theorem ev_max0 {P : Program} {L : List HP} {σ : Env} {d : Option Nat} {ty : TypeId} {ts : Array TypeId} {pos : String} {aft : Array Edge} {gd : Option (Nat × Bool)} {x : Operand} {p : Int} (hx : ev σ x = some (.int .i64 p)) :
    Ev P L σ ⟨d, .call ⟨.builtin .max, #[x, .const (.int .i64 0)], ts⟩, ty, pos, aft, gd⟩ (.int .i64 (p.toNat : Nat)) := by
  have h := ev_max (P := P) (L := L) (d := d) (ty := ty) (ts := ts) (pos := pos) (aft := aft) (gd := gd) (x := x) (y := .const (.int .i64 0)) hx rfl
  have e : max p 0 = ((p.toNat : Nat) : Int) := by omega
  rwa [e] at h
@[reducible] def kcuC (s : Nat) (w : Bx) (A : Option Addr) (m c k : Nat) : List Value := [.pointer (some ⟨s, 0, none⟩), .int .i64 w.x1, .int .i64 w.x2, .int .i64 w.y1, .int .i64 w.y2, .bool true, .slice A m c, .int .i64 (m : Nat), .int .i64 (k : Nat)]
def kcS (b s : Nat) (w : Bx) (ids : List Int) (k : Nat) : HP := fun h => ∃ y : Option Addr × Nat, (0 < ids.length → ∃ b, y.1 = some ⟨b, 0, none⟩) ∧ sat [blk b 70 (kcuC s w y.1 ids.length y.2 k), own 3 1 y.1 ids.length y.2 (flat ids)] h
theorem kc_open {b s k : Nat} {w : Bx} {ids : List Int} {M : List HP} {hm : Hm} (h : sat (kcS b s w ids k :: M) hm) : ∃ A c, (0 < ids.length → ∃ b, A = some ⟨b, 0, none⟩) ∧ ids.length ≤ c ∧ c ≤ maxLen ∧ sat (blk b 70 (kcuC s w A ids.length c k) :: own 3 1 A ids.length c (flat ids) :: M) hm := by
  obtain ⟨h1, h2, d, s1, s2, ⟨⟨A, c⟩, hA, q⟩, t⟩ := h
  have q0 := own.facts (L := []) q.tail
  exact ⟨A, c, hA, q0.2.1, q0.2.2.1, sat.head (A := fun h => h = h1) (N := [blk b 70 (kcuC s w A ids.length c k), own 3 1 A ids.length c (flat ids)]) (fun _ e => e ▸ q) ⟨h1, h2, d, s1, s2, rfl, t⟩⟩
theorem Ctr.kc {P : Program} {f : FuncId} {args : Array Value} {L : List HP} {b s k : Nat} {w : Bx} {ids : List Int} {post : Value → List HP → Prop}
    (C : ∀ A c, (0 < ids.length → ∃ b, A = some ⟨b, 0, none⟩) → ids.length ≤ c → c ≤ maxLen → Ctr P f args (blk b 70 (kcuC s w A ids.length c k) :: own 3 1 A ids.length c (flat ids) :: L) post) : Ctr P f args (kcS b s w ids k :: L) post := fun g F w hw => by
  obtain ⟨A, c, h1, h2, h3, h4⟩ := kc_open hw.s.swap
  exact C A c h1 h2 h3 g F w ⟨hw.g, h4.perm (List.perm_middle (l₁ := [_, _]))⟩
theorem G_kc {P : Program} {B : Exit → Act → World → Prop} {g : Glob} {N : Nat} {K : List Kt} {σ : Env} {L : List HP} {b s k : Nat} {w : Bx} {ids : List Int}
    (h : ∀ A c, (0 < ids.length → ∃ b, A = some ⟨b, 0, none⟩) → ids.length ≤ c → c ≤ maxLen → G P B g N K σ (blk b 70 (kcuC s w A ids.length c k) :: own 3 1 A ids.length c (flat ids) :: L)) : G P B g N K σ (kcS b s w ids k :: L) := fun a v hs hw => by
  obtain ⟨A, c, h1, h2, h3, h4⟩ := kc_open hw.s
  exact h A c h1 h2 h3 a v hs ⟨hw.g, h4⟩
theorem en_kc {L M : List HP} {b s c k n : Nat} {A : Option Addr} {w : Bx} {ids : List Int} {vs : List Value} (hn : ids.length = n) (hv : flat ids = vs) (hA : 0 < n → ∃ b, A = some ⟨b, 0, none⟩) (f : ∀ h, sat L h → sat (blk b 70 (kcuC s w A n c k) :: own 3 1 A n c vs :: M) h) : ∀ h, sat L h → sat (kcS b s w ids k :: M) h := fun h t => by
  subst hn hv
  exact sat.fold (N := [_, _]) (fun h q => ⟨(A, c), hA, q⟩) (f h t)
/-- What is told of the next ones: what is found, in order; how many. -/
structure KcI (w : Bx) (tot : List Int) (L0 : List HP) (l : List KT) (ids : List Int) (r : Nat) : Prop where
  rest : r = lkL w l
  small : r ≤ 60000
  ok : ∀ x ∈ l, KIn L0 x ∧ x.addr.isSome = true ∧ x.cnt ≤ 1000
  ids : ids ++ fdL w l.reverse = tot
theorem KIn.kds {L : List HP} {T x : KT} (h : KIn L T) (hx : x ∈ T.kds) : KIn L x := by
  cases T with
  | nil => simp [KT.kds] at hx
  | node b p g m x' lo hi =>
    have := (List.mem_filter.1 hx).1
    simp only [List.mem_cons, List.not_mem_nil, or_false] at this
    rcases this with rfl | rfl
    · exact h.2.1
    · exact h.2.2
theorem KcI.len {w : Bx} {tot : List Int} {L0 : List HP} {l : List KT} {ids : List Int} {r : Nat} (h : KcI w tot L0 l ids r) (hb : tot.length ≤ 1000000) : ids.length ≤ 1000000 := by
  have := congrArg List.length h.ids
  rw [List.length_append] at this
  omega
theorem KcI.next {w : Bx} {tot : List Int} {L0 : List HP} {l : List KT} {x : KT} {ids : List Int} {r : Nat} (h : KcI w tot L0 (l ++ [x]) ids r) :
    ∃ r', r = r' + 1 ∧ KcI w tot L0 (l ++ (x.nxK w).reverse) (ids ++ x.idK w) r' := by
  have h1 := h.rest
  have h2 := h.small
  obtain ⟨x1, x3, x4⟩ := h.ok x (List.mem_append.2 (.inr (List.mem_singleton.2 rfl)))
  have e1 : lkL w (l ++ [x]) = lkL w l + (1 + lkL w (x.nxK w)) := by rw [lkL_app, ← KT.lk_eq x3]; simp [lkL]
  have e2 : fdL w (l ++ [x]).reverse = x.idK w ++ (fdL w (x.nxK w) ++ fdL w l.reverse) := by
    rw [List.reverse_append, List.reverse_singleton, fdL_app]
    have : fdL w [x] = x.fdK w := by simp [fdL]
    rw [this, KT.fd_eq x3, List.append_assoc]
  have e3 : fdL w (l ++ (x.nxK w).reverse).reverse = fdL w (x.nxK w) ++ fdL w l.reverse := by rw [List.reverse_append, List.reverse_reverse, fdL_app]
  have e4 : lkL w (l ++ (x.nxK w).reverse) = lkL w l + lkL w (x.nxK w) := by rw [lkL_app, lkL_rev]
  refine ⟨lkL w l + lkL w (x.nxK w), by omega, e4.symm, by omega, fun y hy => ?_, ?_⟩
  · rcases List.mem_append.1 hy with hy | hy
    · exact h.ok y (List.mem_append.2 (.inl hy))
    · have hy := List.mem_reverse.1 hy
      have := KT.nxK_mem hy
      exact ⟨x1.kds (List.mem_filter.1 hy).1, this.1, by omega⟩
  · rw [e3, ← h.ids, e2]
    simp only [List.append_assoc]
theorem KcI.done {w : Bx} {tot : List Int} {L0 : List HP} {l : List KT} {ids : List Int} {r : Nat} (hI : KcI w tot L0 l ids r) : (l.length : Int) = 0 ↔ r = 0 := by
  have h1 := hI.rest
  have h2 := lkL_len (w := w) (l := l) fun x hx => (hI.ok x hx).2.1
  constructor
  · intro h
    have : l = [] := List.eq_nil_of_length_eq_zero (by omega)
    subst this
    rw [h1]; rfl
  · intro h; omega
theorem KcI.end_ {w : Bx} {tot : List Int} {L0 : List HP} {l : List KT} {ids : List Int} (hI : KcI w tot L0 l ids 0) : l = [] ∧ ids = tot := by
  have h1 : l = [] := List.eq_nil_of_length_eq_zero (by have := hI.done.2 rfl; omega)
  subst h1
  exact ⟨rfl, by simpa [fdL] using hI.ids⟩
theorem KcI.start {w : Bx} {L0 : List HP} {T : KT} (h : KIn L0 T) (hn : T.cnt ≤ 1000) (hs : T.addr.isSome = true) : KcI w (T.fdK w) L0 [T] [] (T.lkK w) :=
  ⟨by simp [lkL], by have := T.lk_cnt w; omega, fun x hx => by simp at hx; subst hx; exact ⟨h, hs, hn⟩, by simp [fdL]⟩
end Go.Proofs.YtjgdhkilnalejaaGreat
/- A tree of points by two orders in turn: what reads a node. -/
namespace Go.Proofs.YtjgdhkilnalejaaGreat
attribute [local irreducible] sat
open Go.RowKit
set_option linter.unusedVariables false
set_option linter.unusedSimpArgs false
set_option maxRecDepth 100000

theorem ksize_ctr (T : KT) (L : List HP) (h : KIn L T) : Ctr Tryz.prog 31 #[.pointer T.addr] L fun v L' => v = .int .i64 (T.size : Nat) ∧ L' = L := by
  cases T with
  | nil =>
    refine Ctr_of (fn := Tryz.f31) (n := 9) Tryz.func31 rfl rfl rfl ?_
    intro g F
    (repeat first | refine G_seq ?_ | refine G_skip ?_ | refine G_endblk ?_ | refine G_block ?_ | refine G_exit rfl ?_)
    refine G_region ?_
    refine GO_q rfl rfl (ev_assign rfl) ?_
    refine GO_nil ?_
    (repeat first | refine G_seq ?_ | refine G_skip ?_ | refine G_endblk ?_ | refine G_block ?_ | refine G_exit rfl ?_)
    refine G_region ?_
    refine GO_q rfl rfl (ev_move rfl) ?_
    (first | refine GO_q rfl rfl (ev_eqlNil rfl rfl) ?_ | refine GO_q rfl rfl (ev_eqlPtr rfl rfl) ?_)
    refine GO_nil ?_
    (repeat first | refine G_seq ?_ | refine G_skip ?_ | refine G_endblk ?_ | refine G_block ?_ | refine G_exit rfl ?_)
    refine G_cond_t rfl rfl ?_
    (repeat first | refine G_seq ?_ | refine G_skip ?_ | refine G_endblk ?_ | refine G_block ?_ | refine G_exit rfl ?_)
    refine G_region ?_
    refine GO_q rfl rfl (ev_assign rfl) ?_
    refine GO_nil ?_
    (repeat first | refine G_seq ?_ | refine G_skip ?_ | refine G_endblk ?_ | refine G_block ?_ | refine G_exit rfl ?_)
    refine G_ret rfl (.tmp rfl .nil) (by (repeat first | exact fun _ s => s | apply en_keep | apply en_drop | apply en_app) <;> fail) ⟨rfl, rfl⟩
  | node b p g m x lo hi =>
    obtain ⟨q1, q2, q3, q4, q5, q6, q7, q8, q9, q10⟩ := h.f
    refine Ctr_of (fn := Tryz.f31) (n := 9) Tryz.func31 rfl rfl rfl ?_
    intro g F
    (repeat first | refine G_seq ?_ | refine G_skip ?_ | refine G_endblk ?_ | refine G_block ?_ | refine G_exit rfl ?_)
    refine G_region ?_
    refine GO_q rfl rfl (ev_assign rfl) ?_
    refine GO_nil ?_
    (repeat first | refine G_seq ?_ | refine G_skip ?_ | refine G_endblk ?_ | refine G_block ?_ | refine G_exit rfl ?_)
    refine G_region ?_
    refine GO_q rfl rfl (ev_move rfl) ?_
    (first | refine GO_q rfl rfl (ev_eqlNil rfl rfl) ?_ | refine GO_q rfl rfl (ev_eqlPtr rfl rfl) ?_)
    refine GO_nil ?_
    (repeat first | refine G_seq ?_ | refine G_skip ?_ | refine G_endblk ?_ | refine G_block ?_ | refine G_exit rfl ?_)
    refine G_cond_f rfl rfl ?_
    (repeat first | refine G_seq ?_ | refine G_skip ?_ | refine G_endblk ?_ | refine G_block ?_ | refine G_exit rfl ?_)
    refine G_region ?_
    refine GO_q rfl rfl (ev_move rfl) ?_
    (first | refine GO_q rfl rfl (ev_nilCheck rfl) ?_ | refine GO_q rfl rfl (ev_nilCheckF (by simp) rfl) ?_)
    refine GO_q rfl rfl (ev_fieldAddr rfl) ?_
    refine GO_q rfl rfl (ev_load rfl (by repeat' first | exact Ld.blk rfl | assumption | apply Ld.skip | apply Ld.app)) ?_
    refine GO_q rfl rfl (ev_assign rfl) ?_
    refine GO_nil ?_
    (repeat first | refine G_seq ?_ | refine G_skip ?_ | refine G_endblk ?_ | refine G_block ?_ | refine G_exit rfl ?_)
    refine G_ret rfl (.tmp rfl .nil) (by (repeat first | exact fun _ s => s | apply en_keep | apply en_drop | apply en_app) <;> fail) ⟨rfl, rfl⟩
theorem kpart_ctr (n : Nat) (L : List HP) (hn : n ≤ 9223372036854775807) : Ctr Tryz.prog 93 #[.int .i64 (n : Nat)] L fun v L' => v = .int .i64 (prt n : Nat) ∧ L' = L := by
  refine Ctr_of (fn := Tryz.f93) (n := 11) Tryz.func93 rfl rfl rfl ?_
  intro g F
  (repeat first | refine G_seq ?_ | refine G_skip ?_ | refine G_endblk ?_ | refine G_block ?_ | refine G_exit rfl ?_)
  refine G_region ?_
  refine GO_q rfl rfl (ev_assign rfl) ?_
  refine GO_nil ?_
  (repeat first | refine G_seq ?_ | refine G_skip ?_ | refine G_endblk ?_ | refine G_block ?_ | refine G_exit rfl ?_)
  refine G_region ?_
  refine GO_q rfl rfl (ev_move rfl) ?_
  (first | refine GO_q rfl rfl (ev_quoN (q := 4) rfl rfl (by first | omega | (simp; done) | (simp; omega)) (by first | omega | (simp; done) | (simp; omega))) ?_ | refine GO_q rfl rfl (ev_quo rfl rfl (by first | omega | (simp; done) | (simp; omega)) (by first | omega | (simp; done) | (simp; omega)) (by first | omega | (simp; done) | (simp; omega))) ?_)
  refine GO_q rfl rfl (ev_mul rfl rfl (by first | omega | (simp; done) | (simp; omega))) ?_
  refine GO_q rfl rfl (ev_move rfl) ?_
  refine GO_q rfl rfl (ev_remK (q := 4) rfl rfl (by decide)) ?_
  refine GO_q rfl rfl (ev_mul rfl rfl (by first | omega | (simp; done) | (simp; omega))) ?_
  (first | refine GO_q rfl rfl (ev_quoN (q := 4) rfl rfl (by first | omega | (simp; done) | (simp; omega)) (by first | omega | (simp; done) | (simp; omega))) ?_ | refine GO_q rfl rfl (ev_quo rfl rfl (by first | omega | (simp; done) | (simp; omega)) (by first | omega | (simp; done) | (simp; omega)) (by first | omega | (simp; done) | (simp; omega))) ?_)
  (first | refine GO_q rfl rfl (ev_addN rfl rfl (by first | omega | (simp; done) | (simp; omega))) ?_ | refine GO_q rfl rfl (ev_add rfl rfl (by first | omega | (simp; done) | (simp; omega))) ?_)
  refine GO_q rfl rfl (ev_assign rfl) ?_
  refine GO_nil ?_
  (repeat first | refine G_seq ?_ | refine G_skip ?_ | refine G_endblk ?_ | refine G_block ?_ | refine G_exit rfl ?_)
  refine G_ret (L' := L) rfl (.tmp rfl .nil) (by (repeat first | exact fun _ s => s | apply en_keep | apply en_drop | apply en_app) <;> fail) ⟨?_, rfl⟩
  show Value.int .i64 _ = _
  congr 1
  have e : n / 4 * 3 + n % 4 * 3 / 4 = prt n := by unfold prt; omega
  exact_mod_cast e
/-- The function that tells of the order at a level. -/
def aheadF (lv : Nat) : FuncId := if lv % 2 = 0 then 111 else 112
instance (lv : Nat) : CalT Tryz.prog (aheadF lv) := by
  unfold aheadF
  split
  · infer_instance
  · infer_instance
theorem ahead1_ctr (p q : Pt) (L : List HP) : Ctr Tryz.prog 112 #[p.v, q.v] L fun v L' => v = .bool (und p q) ∧ L' = L := by
  refine Ctr_of (fn := Tryz.f112) (n := 9) Tryz.func112 rfl rfl rfl ?_
  intro g F
  (repeat first | refine G_seq ?_ | refine G_skip ?_ | refine G_endblk ?_ | refine G_block ?_ | refine G_exit rfl ?_)
  refine G_region ?_
  refine GO_eff rfl rfl (eff_box rfl) ?_; rintro _ _ ⟨b2, rfl, rfl⟩
  refine GO_eff rfl rfl (eff_box rfl) ?_; rintro _ _ ⟨b3, rfl, rfl⟩
  refine GO_q rfl rfl (ev_assign rfl) ?_
  refine GO_nil ?_
  (repeat first | refine G_seq ?_ | refine G_skip ?_ | refine G_endblk ?_ | refine G_block ?_ | refine G_exit rfl ?_)
  refine G_region ?_
  refine GO_q rfl rfl (ev_loadN rfl (by repeat' first | exact LdN.blk rfl | assumption | apply LdN.skip | apply LdN.app)) ?_
  refine GO_q rfl rfl (ev_loadN rfl (by repeat' first | exact LdN.blk rfl | assumption | apply LdN.skip | apply LdN.app)) ?_
  refine GO_eff rfl rfl (eff_call rfl (up_ctr p q _)) ?_; rintro _ _ ⟨rfl, rfl⟩
  (first | refine GO_q rfl rfl (ev_lssN (q := 0) rfl rfl) ?_ | refine GO_q rfl rfl (ev_lss rfl rfl) ?_)
  refine GO_q rfl rfl (ev_assign rfl) ?_
  refine GO_nil ?_
  (repeat first | refine G_seq ?_ | refine G_skip ?_ | refine G_endblk ?_ | refine G_block ?_ | refine G_exit rfl ?_)
  refine G_ret rfl (.tmp rfl .nil) (by (repeat first | exact fun _ s => s | apply en_keep | apply en_drop | apply en_app) <;> fail) ⟨rfl, rfl⟩
theorem ahead_ls (lv : Nat) : LsT (aheadF lv) (ahd lv) := ⟨fun p q L => by
  unfold aheadF ahd
  by_cases h : lv % 2 = 0
  · rw [if_pos h, if_pos h]; exact less_ctr p q L
  · rw [if_neg h, if_neg h]; exact ahead1_ctr p q L⟩
theorem ahead_ctr (lv : Nat) (L : List HP) (hl : lv ≤ 9223372036854775807) : Ctr Tryz.prog 86 #[.int .i64 (lv : Nat)] L fun v L' => v = .func (.func (aheadF lv)) #[] #[] ∧ L' = L := by
  unfold aheadF
  refine Ctr_of (fn := Tryz.f86) (n := 6) Tryz.func86 rfl rfl rfl ?_
  intro g F
  (repeat first | refine G_seq ?_ | refine G_skip ?_ | refine G_endblk ?_ | refine G_block ?_ | refine G_exit rfl ?_)
  refine G_region ?_
  refine GO_q rfl rfl (ev_assign rfl) ?_
  refine GO_nil ?_
  by_cases h : lv % 2 = 0
  · rw [if_pos h]
    (repeat first | refine G_seq ?_ | refine G_skip ?_ | refine G_endblk ?_ | refine G_block ?_ | refine G_exit rfl ?_)
    refine G_region ?_
    refine GO_q rfl rfl (ev_move rfl) ?_
    refine GO_q rfl rfl (ev_remK (q := 2) rfl rfl (by decide)) ?_
    refine GO_q rfl rfl (ev_eql rfl rfl) ?_
    refine GO_nil ?_
    (repeat first | refine G_seq ?_ | refine G_skip ?_ | refine G_endblk ?_ | refine G_block ?_ | refine G_exit rfl ?_)
    refine G_cond_t rfl (decide_eq_true (by omega)) ?_
    (repeat first | refine G_seq ?_ | refine G_skip ?_ | refine G_endblk ?_ | refine G_block ?_ | refine G_exit rfl ?_)
    refine G_region ?_
    refine GO_q rfl rfl (ev_assign rfl) ?_
    refine GO_nil ?_
    (repeat first | refine G_seq ?_ | refine G_skip ?_ | refine G_endblk ?_ | refine G_block ?_ | refine G_exit rfl ?_)
    refine G_ret rfl (.tmp rfl .nil) (by (repeat first | exact fun _ s => s | apply en_keep | apply en_drop | apply en_app) <;> fail) ⟨rfl, rfl⟩
  · rw [if_neg h]
    (repeat first | refine G_seq ?_ | refine G_skip ?_ | refine G_endblk ?_ | refine G_block ?_ | refine G_exit rfl ?_)
    refine G_region ?_
    refine GO_q rfl rfl (ev_move rfl) ?_
    refine GO_q rfl rfl (ev_remK (q := 2) rfl rfl (by decide)) ?_
    refine GO_q rfl rfl (ev_eql rfl rfl) ?_
    refine GO_nil ?_
    (repeat first | refine G_seq ?_ | refine G_skip ?_ | refine G_endblk ?_ | refine G_block ?_ | refine G_exit rfl ?_)
    refine G_cond_f rfl (decide_eq_false (by omega)) ?_
    (repeat first | refine G_seq ?_ | refine G_skip ?_ | refine G_endblk ?_ | refine G_block ?_ | refine G_exit rfl ?_)
    refine G_region ?_
    refine GO_q rfl rfl (ev_assign rfl) ?_
    refine GO_nil ?_
    (repeat first | refine G_seq ?_ | refine G_skip ?_ | refine G_endblk ?_ | refine G_block ?_ | refine G_exit rfl ?_)
    refine G_ret rfl (.tmp rfl .nil) (by (repeat first | exact fun _ s => s | apply en_keep | apply en_drop | apply en_app) <;> fail) ⟨rfl, rfl⟩
theorem side_ctr (b : Nat) (p q : Pt) (lv : Nat) (L : List HP) (h : LdN L b (0 + 0) 3 [.int .i64 p.id, .int .i64 p.x, .int .i64 p.y]) (hl : lv ≤ 1000000) : Ctr Tryz.prog 64 #[.pointer (some ⟨b, 0, none⟩), q.v, .int .i64 (lv : Nat)] L fun v L' => v = .int .i64 (if ahd lv q p = true then 0 else 1) ∧ L' = L := by
  have hc := (ahead_ls lv).ctr q p
  generalize ahd lv q p = r at *
  refine Ctr_of (fn := Tryz.f64) (n := 15) Tryz.func64 rfl rfl rfl ?_
  intro g F
  (repeat first | refine G_seq ?_ | refine G_skip ?_ | refine G_endblk ?_ | refine G_block ?_ | refine G_exit rfl ?_)
  refine G_region ?_
  refine GO_eff rfl rfl (eff_box rfl) ?_; rintro _ _ ⟨b4, rfl, rfl⟩
  refine GO_q rfl rfl (ev_assign rfl) ?_
  refine GO_nil ?_
  (repeat first | refine G_seq ?_ | refine G_skip ?_ | refine G_endblk ?_ | refine G_block ?_ | refine G_exit rfl ?_)
  refine G_draw (.q 0 (.q 2 (.q 3 (.q 4 (.q 5 (.q 6 (.e 1 (.e 7 .nil)))))))) (by kernel_rfl) (by kernel_rfl) ?_
  refine RS_m retB_noPanic rfl rfl rfl rfl (ev_move rfl) ?_
  refine RS_q retB_noPanic rfl rfl rfl rfl (ev_loadN rfl (by repeat' first | exact LdN.blk rfl | assumption | apply LdN.skip | apply LdN.app)) ?_
  refine RS_m retB_noPanic rfl rfl rfl rfl (ev_move rfl) ?_
  (first | refine RS_m retB_noPanic rfl rfl rfl rfl (ev_nilCheck rfl) ?_ | refine RS_m retB_noPanic rfl rfl rfl rfl (ev_nilCheckF (by simp) rfl) ?_)
  refine RS_m retB_noPanic rfl rfl rfl rfl (ev_fieldAddr rfl) ?_
  refine RS_q retB_noPanic rfl rfl rfl rfl (ev_loadN rfl (by repeat' first | exact LdN.blk rfl | assumption | apply LdN.skip | apply LdN.app)) ?_
  refine RS_e (RE_eff rfl rfl rfl (eff_call rfl (ahead_ctr lv _ (by omega))) ?_); rintro _ _ ⟨rfl, rfl⟩; refine ⟨_, fun _ s => s, (by first | ((repeat first | exact fun _ s => s | apply en_keep | apply en_drop | apply en_app) <;> fail) | ((repeat first | exact en_refl | (apply en_blk; focus ((repeat' first | exact Pick.here | apply Pick.skip | apply Pick.app); done); focus rfl) | (apply en_own; focus ((repeat' first | exact Pick.here | apply Pick.skip | apply Pick.app); done); focus rfl) | (apply en_pick; focus ((repeat' first | exact Pick.here | apply Pick.skip | apply Pick.app); done)) | apply en_drop | apply en_app) <;> fail)), ?_⟩
  refine RS_e (RE_last (by kernel_rfl) rfl rfl rfl (eff_callv rfl rfl (hc _)) ?_); rintro _ _ ⟨rfl, rfl⟩
  all_goals
    cases r with
    | true =>
      (repeat first | refine G_seq ?_ | refine G_skip ?_ | refine G_endblk ?_ | refine G_block ?_ | refine G_exit rfl ?_)
      refine G_cond_t rfl rfl ?_
      (repeat first | refine G_seq ?_ | refine G_skip ?_ | refine G_endblk ?_ | refine G_block ?_ | refine G_exit rfl ?_)
      refine G_region ?_
      refine GO_q rfl rfl (ev_assign rfl) ?_
      refine GO_nil ?_
      (repeat first | refine G_seq ?_ | refine G_skip ?_ | refine G_endblk ?_ | refine G_block ?_ | refine G_exit rfl ?_)
      refine G_ret rfl (.tmp rfl .nil) (by (repeat first | exact fun _ s => s | apply en_keep | apply en_drop | apply en_app) <;> fail) ⟨rfl, rfl⟩
    | false =>
      (repeat first | refine G_seq ?_ | refine G_skip ?_ | refine G_endblk ?_ | refine G_block ?_ | refine G_exit rfl ?_)
      refine G_cond_f rfl rfl ?_
      (repeat first | refine G_seq ?_ | refine G_skip ?_ | refine G_endblk ?_ | refine G_block ?_ | refine G_exit rfl ?_)
      refine G_region ?_
      refine GO_q rfl rfl (ev_assign rfl) ?_
      refine GO_nil ?_
      (repeat first | refine G_seq ?_ | refine G_skip ?_ | refine G_endblk ?_ | refine G_block ?_ | refine G_exit rfl ?_)
      refine G_ret rfl (.tmp rfl .nil) (by (repeat first | exact fun _ s => s | apply en_keep | apply en_drop | apply en_app) <;> fail) ⟨rfl, rfl⟩
end Go.Proofs.YtjgdhkilnalejaaGreat
/- A tree of points by two orders in turn: boxes, note, heavy. -/
namespace Go.Proofs.YtjgdhkilnalejaaGreat
attribute [local irreducible] sat
open Go.RowKit
set_option linter.unusedVariables false
set_option linter.unusedSimpArgs false
set_option maxRecDepth 100000

theorem Around1_ctr (p : Pt) (A : Option Addr) (c : Nat) (L : List HP) (h : Rd L A 1 [p]) (hc : 1 ≤ c) : Ctr Tryz.prog 91 #[.slice A 1 c] L fun v L' => v = .tuple #[p.bx.v, .bool true] ∧ L' = L := by
  obtain ⟨b1, o1, rfl, x1⟩ := h.at_ (by decide)
  have y := x1 0 p rfl
  have y1 : Ld L ⟨b1, o1 + 0 * 3 + 1, none⟩ (.int .i64 p.x) := y.at_ (i := 1) rfl
  have y2 : Ld L ⟨b1, o1 + 0 * 3 + 2, none⟩ (.int .i64 p.y) := y.at_ (i := 2) rfl
  refine Ctr_of (fn := Tryz.f91) (n := 40) Tryz.func91 rfl rfl rfl ?_
  intro g F
  (repeat first | refine G_seq ?_ | refine G_skip ?_ | refine G_endblk ?_ | refine G_block ?_ | refine G_exit rfl ?_)
  refine G_region ?_
  refine GO_eff rfl rfl eff_alloc ?_; rintro _ _ ⟨b2, rfl, rfl⟩
  refine GO_q rfl rfl (ev_assign rfl) ?_
  refine GO_nil ?_
  (repeat first | refine G_seq ?_ | refine G_skip ?_ | refine G_endblk ?_ | refine G_block ?_ | refine G_exit rfl ?_)
  refine G_region ?_
  refine GO_q rfl rfl (ev_move rfl) ?_
  refine GO_q rfl rfl (ev_len rfl) ?_
  refine GO_q rfl rfl (ev_eql rfl rfl) ?_
  refine GO_nil ?_
  (repeat first | refine G_seq ?_ | refine G_skip ?_ | refine G_endblk ?_ | refine G_block ?_ | refine G_exit rfl ?_)
  refine G_cond_f rfl rfl ?_
  (repeat first | refine G_seq ?_ | refine G_skip ?_ | refine G_endblk ?_ | refine G_block ?_ | refine G_exit rfl ?_)
  refine G_draw (.q 0 (.q 1 (.q 2 (.q 3 (.q 4 (.q 5 (.q 6 (.q 7 (.q 8 (.q 9 (.q 10 (.q 11 (.q 12 (.q 13 (.q 14 (.q 15 (.q 16 (.e 17 (.e 18 .nil))))))))))))))))))) (by kernel_rfl) (by kernel_rfl) ?_
  refine RS_m retB_noPanic rfl rfl rfl rfl (ev_move rfl) ?_
  (first | refine RS_m retB_noPanic rfl rfl rfl rfl (ev_indexAddrN rfl rfl (by first | omega | (simp; done) | (simp; omega))) ?_ | refine RS_m retB_noPanic rfl rfl rfl rfl (ev_indexAddr rfl rfl (by first | omega | (simp; done) | (simp; omega)) (by first | omega | (simp; done) | (simp; omega))) ?_)
  refine RS_m retB_noPanic rfl rfl rfl rfl (ev_fieldAddr rfl) ?_
  refine RS_q retB_noPanic rfl rfl rfl rfl (ev_load rfl (by repeat' first | exact y1 | apply Ld.skip)) ?_
  refine RS_m retB_noPanic rfl rfl rfl rfl (ev_move rfl) ?_
  (first | refine RS_m retB_noPanic rfl rfl rfl rfl (ev_indexAddrN rfl rfl (by first | omega | (simp; done) | (simp; omega))) ?_ | refine RS_m retB_noPanic rfl rfl rfl rfl (ev_indexAddr rfl rfl (by first | omega | (simp; done) | (simp; omega)) (by first | omega | (simp; done) | (simp; omega))) ?_)
  refine RS_m retB_noPanic rfl rfl rfl rfl (ev_fieldAddr rfl) ?_
  refine RS_q retB_noPanic rfl rfl rfl rfl (ev_load rfl (by repeat' first | exact y1 | apply Ld.skip)) ?_
  refine RS_m retB_noPanic rfl rfl rfl rfl (ev_move rfl) ?_
  (first | refine RS_m retB_noPanic rfl rfl rfl rfl (ev_indexAddrN rfl rfl (by first | omega | (simp; done) | (simp; omega))) ?_ | refine RS_m retB_noPanic rfl rfl rfl rfl (ev_indexAddr rfl rfl (by first | omega | (simp; done) | (simp; omega)) (by first | omega | (simp; done) | (simp; omega))) ?_)
  refine RS_m retB_noPanic rfl rfl rfl rfl (ev_fieldAddr rfl) ?_
  refine RS_q retB_noPanic rfl rfl rfl rfl (ev_load rfl (by repeat' first | exact y2 | apply Ld.skip)) ?_
  refine RS_m retB_noPanic rfl rfl rfl rfl (ev_move rfl) ?_
  (first | refine RS_m retB_noPanic rfl rfl rfl rfl (ev_indexAddrN rfl rfl (by first | omega | (simp; done) | (simp; omega))) ?_ | refine RS_m retB_noPanic rfl rfl rfl rfl (ev_indexAddr rfl rfl (by first | omega | (simp; done) | (simp; omega)) (by first | omega | (simp; done) | (simp; omega))) ?_)
  refine RS_m retB_noPanic rfl rfl rfl rfl (ev_fieldAddr rfl) ?_
  refine RS_q retB_noPanic rfl rfl rfl rfl (ev_load rfl (by repeat' first | exact y2 | apply Ld.skip)) ?_
  refine RS_m retB_noPanic rfl rfl rfl rfl (ev_build rfl rfl) ?_
  refine RS_e (RE_eff rfl rfl rfl eff_alloc ?_); rintro _ _ ⟨b4, rfl, rfl⟩; refine ⟨_, fun _ s => s, (by first | ((repeat first | exact fun _ s => s | apply en_keep | apply en_drop | apply en_app) <;> fail) | ((repeat first | exact en_refl | (apply en_blk; focus ((repeat' first | exact Pick.here | apply Pick.skip | apply Pick.app); done); focus rfl) | (apply en_own; focus ((repeat' first | exact Pick.here | apply Pick.skip | apply Pick.app); done); focus rfl) | (apply en_pick; focus ((repeat' first | exact Pick.here | apply Pick.skip | apply Pick.app); done)) | apply en_drop | apply en_app) <;> fail)), ?_⟩
  refine RS_e (RE_last (by kernel_rfl) rfl rfl rfl (eff_storeN rfl rfl rfl rfl (by repeat' first | exact Upd.here rfl | apply Upd.skip | apply Upd.app)) ?_); rintro _ _ ⟨rfl, rfl⟩
  all_goals
    (repeat first | refine G_seq ?_ | refine G_skip ?_ | refine G_endblk ?_ | refine G_block ?_ | refine G_exit rfl ?_)
    refine G_region ?_
    refine GO_q rfl rfl (ev_move rfl) ?_
    refine GO_q rfl rfl (ev_sliceL rfl rfl (by first | omega | (simp; done) | (simp; omega)) (by first | omega | (simp; done) | (simp; omega))) ?_
    refine GO_q rfl rfl (ev_len rfl) ?_
    refine GO_q rfl rfl (ev_move rfl) ?_
    refine GO_nil ?_
    (repeat first | refine G_seq ?_ | refine G_skip ?_ | refine G_endblk ?_ | refine G_block ?_ | refine G_exit rfl ?_)
    refine G_loop (ι := Unit) (fun _ => [(2, .pointer (some ⟨b2, 0, none⟩)), (4, .pointer (some ⟨b4, 0, none⟩)), (30, .int .i64 0), (31, .int .i64 0)]) (fun _ => blk b4 43 [.int .i64 p.x, .int .i64 p.x, .int .i64 p.y, .int .i64 p.y] :: blk b2 43 [.int .i64 0, .int .i64 0, .int .i64 0, .int .i64 0] :: F :: L) (fun _ => True) (fun _ => 0) () trivial ⟨rfl, rfl, rfl, rfl, trivial⟩ (by (repeat first | exact en_refl | (apply en_blk; focus ((repeat' first | exact Pick.here | apply Pick.skip | apply Pick.app); done); focus rfl) | (apply en_own; focus ((repeat' first | exact Pick.here | apply Pick.skip | apply Pick.app); done); focus rfl) | (apply en_pick; focus ((repeat' first | exact Pick.here | apply Pick.skip | apply Pick.app); done)) | apply en_drop | apply en_app) <;> fail) ?_
    rintro _ -
    (repeat first | refine G_seq ?_ | refine G_skip ?_ | refine G_endblk ?_ | refine G_block ?_ | refine G_exit rfl ?_)
    refine G_region ?_
    (first | refine GO_q rfl rfl (ev_lssN rfl rfl) ?_ | refine GO_q rfl rfl (ev_lss rfl rfl) ?_)
    refine GO_nil ?_
    (repeat first | refine G_seq ?_ | refine G_skip ?_ | refine G_endblk ?_ | refine G_block ?_ | refine G_exit rfl ?_)
    refine G_cond_f rfl rfl ?_
    (repeat first | refine G_seq ?_ | refine G_skip ?_ | refine G_endblk ?_ | refine G_block ?_ | refine G_exit rfl ?_)
    refine G_region ?_
    refine GO_q rfl rfl (ev_loadN rfl (by repeat' first | exact LdN.blk rfl | assumption | apply LdN.skip | apply LdN.app)) ?_
    refine GO_eff rfl rfl (eff_storeN rfl rfl rfl rfl (by repeat' first | exact Upd.here rfl | apply Upd.skip | apply Upd.app)) ?_; rintro _ _ ⟨rfl, rfl⟩
    refine GO_q rfl rfl (ev_assign rfl) ?_
    refine GO_nil ?_
    (repeat first | refine G_seq ?_ | refine G_skip ?_ | refine G_endblk ?_ | refine G_block ?_ | refine G_exit rfl ?_)
    refine G_ret rfl (.cell rfl (loadN_run (by repeat' first | exact LdN.blk rfl | assumption | apply LdN.skip | apply LdN.app)) (.tmp rfl .nil)) (by (repeat first | exact fun _ s => s | apply en_keep | apply en_drop | apply en_app) <;> fail) ⟨rfl, rfl⟩
def smB (b : Bx) : Bool := decide (b.x1 ≤ b.x2) && decide (b.y1 ≤ b.y2)
def metB (a b : Bx) : Bx := ⟨max a.x1 b.x1, min a.x2 b.x2, max a.y1 b.y1, min a.y2 b.y2⟩
theorem meets_sm (a b : Bx) : meets a b = (smB a && (smB b && smB (metB a b))) := rfl
theorem some_ctr (b : Bx) (L : List HP) : Ctr Tryz.prog 110 #[b.v] L fun v L' => v = .bool (smB b) ∧ L' = L := by
  unfold smB
  refine Ctr_of (fn := Tryz.f110) (n := 15) Tryz.func110 rfl rfl rfl ?_
  intro g F
  (repeat first | refine G_seq ?_ | refine G_skip ?_ | refine G_endblk ?_ | refine G_block ?_ | refine G_exit rfl ?_)
  refine G_region ?_
  refine GO_eff rfl rfl (eff_box rfl) ?_; rintro _ _ ⟨b1, rfl, rfl⟩
  refine GO_q rfl rfl (ev_assign rfl) ?_
  refine GO_nil ?_
  by_cases h1 : b.x1 ≤ b.x2
  · (repeat first | refine G_seq ?_ | refine G_skip ?_ | refine G_endblk ?_ | refine G_block ?_ | refine G_exit rfl ?_)
    refine G_region ?_
    refine GO_q rfl rfl (ev_fieldAddr rfl) ?_
    refine GO_q rfl rfl (ev_load rfl (by repeat' first | exact Ld.blk rfl | assumption | apply Ld.skip | apply Ld.app)) ?_
    refine GO_q rfl rfl (ev_fieldAddr rfl) ?_
    refine GO_q rfl rfl (ev_load rfl (by repeat' first | exact Ld.blk rfl | assumption | apply Ld.skip | apply Ld.app)) ?_
    refine GO_q rfl rfl (ev_leq rfl rfl) ?_
    refine GO_q rfl rfl (ev_move rfl) ?_
    refine GO_yes rfl rfl rfl (decide_eq_true h1) ?_
    refine GO_q rfl rfl (ev_fieldAddr rfl) ?_
    refine GO_yes rfl rfl rfl (decide_eq_true h1) ?_
    refine GO_q rfl rfl (ev_load rfl (by repeat' first | exact Ld.blk rfl | assumption | apply Ld.skip | apply Ld.app)) ?_
    refine GO_yes rfl rfl rfl (decide_eq_true h1) ?_
    refine GO_q rfl rfl (ev_fieldAddr rfl) ?_
    refine GO_yes rfl rfl rfl (decide_eq_true h1) ?_
    refine GO_q rfl rfl (ev_load rfl (by repeat' first | exact Ld.blk rfl | assumption | apply Ld.skip | apply Ld.app)) ?_
    refine GO_yes rfl rfl rfl (decide_eq_true h1) ?_
    refine GO_q rfl rfl (ev_leq rfl rfl) ?_
    refine GO_q rfl rfl (ev_pick_t rfl (decide_eq_true h1) rfl) ?_
    refine GO_q rfl rfl (ev_assign rfl) ?_
    refine GO_nil ?_
    (repeat first | refine G_seq ?_ | refine G_skip ?_ | refine G_endblk ?_ | refine G_block ?_ | refine G_exit rfl ?_)
    refine G_ret rfl (.tmp rfl .nil) (by (repeat first | exact fun _ s => s | apply en_keep | apply en_drop | apply en_app) <;> fail) ⟨by simp [retv, h1], rfl⟩
  · (repeat first | refine G_seq ?_ | refine G_skip ?_ | refine G_endblk ?_ | refine G_block ?_ | refine G_exit rfl ?_)
    refine G_region ?_
    refine GO_q rfl rfl (ev_fieldAddr rfl) ?_
    refine GO_q rfl rfl (ev_load rfl (by repeat' first | exact Ld.blk rfl | assumption | apply Ld.skip | apply Ld.app)) ?_
    refine GO_q rfl rfl (ev_fieldAddr rfl) ?_
    refine GO_q rfl rfl (ev_load rfl (by repeat' first | exact Ld.blk rfl | assumption | apply Ld.skip | apply Ld.app)) ?_
    refine GO_q rfl rfl (ev_leq rfl rfl) ?_
    refine GO_q rfl rfl (ev_move rfl) ?_
    refine GO_no rfl rfl rfl (decide_eq_false h1) ?_
    refine GO_no rfl rfl rfl (decide_eq_false h1) ?_
    refine GO_no rfl rfl rfl (decide_eq_false h1) ?_
    refine GO_no rfl rfl rfl (decide_eq_false h1) ?_
    refine GO_no rfl rfl rfl (decide_eq_false h1) ?_
    refine GO_q rfl rfl (ev_pick_f rfl (decide_eq_false h1) rfl) ?_
    refine GO_q rfl rfl (ev_assign rfl) ?_
    refine GO_nil ?_
    (repeat first | refine G_seq ?_ | refine G_skip ?_ | refine G_endblk ?_ | refine G_block ?_ | refine G_exit rfl ?_)
    refine G_ret rfl (.tmp rfl .nil) (by (repeat first | exact fun _ s => s | apply en_keep | apply en_drop | apply en_app) <;> fail) ⟨by simp [retv, h1], rfl⟩
theorem Meet_ctr (a b : Bx) (L : List HP) : Ctr Tryz.prog 84 #[a.v, b.v] L fun v L' => ∃ c : Bx, v = .tuple #[c.v, .bool (meets a b)] ∧ L' = L := by
  rw [meets_sm]
  have s1 := some_ctr a
  have s2 := some_ctr b
  have s3 := some_ctr (metB a b)
  generalize smB a = r1 at *
  generalize smB b = r2 at *
  generalize smB (metB a b) = r3 at *
  refine Ctr_of (fn := Tryz.f84) (n := 43) Tryz.func84 rfl rfl rfl ?_
  intro g F
  (repeat first | refine G_seq ?_ | refine G_skip ?_ | refine G_endblk ?_ | refine G_block ?_ | refine G_exit rfl ?_)
  refine G_region ?_
  refine GO_eff rfl rfl (eff_box rfl) ?_; rintro _ _ ⟨b2, rfl, rfl⟩
  refine GO_eff rfl rfl (eff_box rfl) ?_; rintro _ _ ⟨b3, rfl, rfl⟩
  refine GO_eff rfl rfl eff_alloc ?_; rintro _ _ ⟨b4, rfl, rfl⟩
  refine GO_q rfl rfl (ev_assign rfl) ?_
  refine GO_nil ?_
  (repeat first | refine G_seq ?_ | refine G_skip ?_ | refine G_endblk ?_ | refine G_block ?_ | refine G_exit rfl ?_)
  refine G_region ?_
  refine GO_q rfl rfl (ev_fieldAddr rfl) ?_
  refine GO_q rfl rfl (ev_load rfl (by repeat' first | exact Ld.blk rfl | assumption | apply Ld.skip | apply Ld.app)) ?_
  refine GO_q rfl rfl (ev_fieldAddr rfl) ?_
  refine GO_q rfl rfl (ev_load rfl (by repeat' first | exact Ld.blk rfl | assumption | apply Ld.skip | apply Ld.app)) ?_
  refine GO_q rfl rfl (ev_max rfl rfl) ?_
  refine GO_q rfl rfl (ev_fieldAddr rfl) ?_
  refine GO_q rfl rfl (ev_load rfl (by repeat' first | exact Ld.blk rfl | assumption | apply Ld.skip | apply Ld.app)) ?_
  refine GO_q rfl rfl (ev_fieldAddr rfl) ?_
  refine GO_q rfl rfl (ev_load rfl (by repeat' first | exact Ld.blk rfl | assumption | apply Ld.skip | apply Ld.app)) ?_
  refine GO_q rfl rfl (ev_min rfl rfl) ?_
  refine GO_q rfl rfl (ev_fieldAddr rfl) ?_
  refine GO_q rfl rfl (ev_load rfl (by repeat' first | exact Ld.blk rfl | assumption | apply Ld.skip | apply Ld.app)) ?_
  refine GO_q rfl rfl (ev_fieldAddr rfl) ?_
  refine GO_q rfl rfl (ev_load rfl (by repeat' first | exact Ld.blk rfl | assumption | apply Ld.skip | apply Ld.app)) ?_
  refine GO_q rfl rfl (ev_max rfl rfl) ?_
  refine GO_q rfl rfl (ev_fieldAddr rfl) ?_
  refine GO_q rfl rfl (ev_load rfl (by repeat' first | exact Ld.blk rfl | assumption | apply Ld.skip | apply Ld.app)) ?_
  refine GO_q rfl rfl (ev_fieldAddr rfl) ?_
  refine GO_q rfl rfl (ev_load rfl (by repeat' first | exact Ld.blk rfl | assumption | apply Ld.skip | apply Ld.app)) ?_
  refine GO_q rfl rfl (ev_min rfl rfl) ?_
  refine GO_q rfl rfl (ev_build rfl rfl) ?_
  refine GO_eff rfl rfl eff_alloc ?_; rintro _ _ ⟨b6, rfl, rfl⟩
  refine GO_eff rfl rfl (eff_storeN rfl rfl rfl rfl (by repeat' first | exact Upd.here rfl | apply Upd.skip | apply Upd.app)) ?_; rintro _ _ ⟨rfl, rfl⟩
  refine GO_nil ?_
  cases r1 with
  | false =>
    (repeat first | refine G_seq ?_ | refine G_skip ?_ | refine G_endblk ?_ | refine G_block ?_ | refine G_exit rfl ?_)
    refine G_region ?_
    refine GO_q rfl rfl (ev_loadN rfl (by repeat' first | exact LdN.blk rfl | assumption | apply LdN.skip | apply LdN.app)) ?_
    refine GO_eff rfl rfl (eff_call rfl (s1 _)) ?_; rintro _ _ ⟨rfl, rfl⟩
    refine GO_q rfl rfl (ev_not rfl) ?_
    refine GO_q rfl rfl (ev_move rfl) ?_
    refine GO_no rfl rfl rfl rfl ?_
    refine GO_no rfl rfl rfl rfl ?_
    refine GO_no rfl rfl rfl rfl ?_
    refine GO_q rfl rfl (ev_pick_t rfl rfl rfl) ?_
    refine GO_q rfl rfl (ev_move rfl) ?_
    refine GO_no rfl rfl rfl rfl ?_
    refine GO_no rfl rfl rfl rfl ?_
    refine GO_no rfl rfl rfl rfl ?_
    refine GO_q rfl rfl (ev_pick_t rfl rfl rfl) ?_
    refine GO_nil ?_
    (repeat first | refine G_seq ?_ | refine G_skip ?_ | refine G_endblk ?_ | refine G_block ?_ | refine G_exit rfl ?_)
    refine G_cond_t rfl rfl ?_
    (repeat first | refine G_seq ?_ | refine G_skip ?_ | refine G_endblk ?_ | refine G_block ?_ | refine G_exit rfl ?_)
    refine G_region ?_
    refine GO_q rfl rfl (ev_build rfl rfl) ?_
    refine GO_eff rfl rfl (eff_storeN rfl rfl rfl rfl (by repeat' first | exact Upd.here rfl | apply Upd.skip | apply Upd.app)) ?_; rintro _ _ ⟨rfl, rfl⟩
    refine GO_q rfl rfl (ev_assign rfl) ?_
    refine GO_nil ?_
    (repeat first | refine G_seq ?_ | refine G_skip ?_ | refine G_endblk ?_ | refine G_block ?_ | refine G_exit rfl ?_)
    exact G_ret (L' := L) rfl (.cell rfl (loadN_run (by repeat' first | exact LdN.blk rfl | assumption | apply LdN.skip | apply LdN.app)) (.tmp rfl .nil)) (by (repeat first | exact fun _ s => s | apply en_keep | apply en_drop | apply en_app) <;> fail) ⟨⟨0, 0, 0, 0⟩, rfl, rfl⟩
  | true =>
    cases r2 with
    | false =>
      (repeat first | refine G_seq ?_ | refine G_skip ?_ | refine G_endblk ?_ | refine G_block ?_ | refine G_exit rfl ?_)
      refine G_region ?_
      refine GO_q rfl rfl (ev_loadN rfl (by repeat' first | exact LdN.blk rfl | assumption | apply LdN.skip | apply LdN.app)) ?_
      refine GO_eff rfl rfl (eff_call rfl (s1 _)) ?_; rintro _ _ ⟨rfl, rfl⟩
      refine GO_q rfl rfl (ev_not rfl) ?_
      refine GO_q rfl rfl (ev_move rfl) ?_
      refine GO_yes rfl rfl rfl rfl ?_
      refine GO_q rfl rfl (ev_loadN rfl (by repeat' first | exact LdN.blk rfl | assumption | apply LdN.skip | apply LdN.app)) ?_
      refine GO_yes rfl rfl rfl rfl ?_
      refine GO_eff rfl rfl (eff_call rfl (s2 _)) ?_; rintro _ _ ⟨rfl, rfl⟩
      refine GO_yes rfl rfl rfl rfl ?_
      refine GO_q rfl rfl (ev_not rfl) ?_
      refine GO_q rfl rfl (ev_pick_f rfl rfl rfl) ?_
      refine GO_q rfl rfl (ev_move rfl) ?_
      refine GO_no rfl rfl rfl rfl ?_
      refine GO_no rfl rfl rfl rfl ?_
      refine GO_no rfl rfl rfl rfl ?_
      refine GO_q rfl rfl (ev_pick_t rfl rfl rfl) ?_
      refine GO_nil ?_
      (repeat first | refine G_seq ?_ | refine G_skip ?_ | refine G_endblk ?_ | refine G_block ?_ | refine G_exit rfl ?_)
      refine G_cond_t rfl rfl ?_
      (repeat first | refine G_seq ?_ | refine G_skip ?_ | refine G_endblk ?_ | refine G_block ?_ | refine G_exit rfl ?_)
      refine G_region ?_
      refine GO_q rfl rfl (ev_build rfl rfl) ?_
      refine GO_eff rfl rfl (eff_storeN rfl rfl rfl rfl (by repeat' first | exact Upd.here rfl | apply Upd.skip | apply Upd.app)) ?_; rintro _ _ ⟨rfl, rfl⟩
      refine GO_q rfl rfl (ev_assign rfl) ?_
      refine GO_nil ?_
      (repeat first | refine G_seq ?_ | refine G_skip ?_ | refine G_endblk ?_ | refine G_block ?_ | refine G_exit rfl ?_)
      exact G_ret (L' := L) rfl (.cell rfl (loadN_run (by repeat' first | exact LdN.blk rfl | assumption | apply LdN.skip | apply LdN.app)) (.tmp rfl .nil)) (by (repeat first | exact fun _ s => s | apply en_keep | apply en_drop | apply en_app) <;> fail) ⟨⟨0, 0, 0, 0⟩, rfl, rfl⟩
    | true =>
      (repeat first | refine G_seq ?_ | refine G_skip ?_ | refine G_endblk ?_ | refine G_block ?_ | refine G_exit rfl ?_)
      refine G_region ?_
      refine GO_q rfl rfl (ev_loadN rfl (by repeat' first | exact LdN.blk rfl | assumption | apply LdN.skip | apply LdN.app)) ?_
      refine GO_eff rfl rfl (eff_call rfl (s1 _)) ?_; rintro _ _ ⟨rfl, rfl⟩
      refine GO_q rfl rfl (ev_not rfl) ?_
      refine GO_q rfl rfl (ev_move rfl) ?_
      refine GO_yes rfl rfl rfl rfl ?_
      refine GO_q rfl rfl (ev_loadN rfl (by repeat' first | exact LdN.blk rfl | assumption | apply LdN.skip | apply LdN.app)) ?_
      refine GO_yes rfl rfl rfl rfl ?_
      refine GO_eff rfl rfl (eff_call rfl (s2 _)) ?_; rintro _ _ ⟨rfl, rfl⟩
      refine GO_yes rfl rfl rfl rfl ?_
      refine GO_q rfl rfl (ev_not rfl) ?_
      refine GO_q rfl rfl (ev_pick_f rfl rfl rfl) ?_
      refine GO_q rfl rfl (ev_move rfl) ?_
      refine GO_yes rfl rfl rfl rfl ?_
      refine GO_q rfl rfl (ev_loadN rfl (by repeat' first | exact LdN.blk rfl | assumption | apply LdN.skip | apply LdN.app)) ?_
      refine GO_yes rfl rfl rfl rfl ?_
      refine GO_eff rfl rfl (eff_call rfl (s3 _)) ?_; rintro _ _ ⟨rfl, rfl⟩
      refine GO_yes rfl rfl rfl rfl ?_
      refine GO_q rfl rfl (ev_not rfl) ?_
      refine GO_q rfl rfl (ev_pick_f rfl rfl rfl) ?_
      refine GO_nil ?_
      cases r3 with
      | false =>
        (repeat first | refine G_seq ?_ | refine G_skip ?_ | refine G_endblk ?_ | refine G_block ?_ | refine G_exit rfl ?_)
        refine G_cond_t rfl rfl ?_
        (repeat first | refine G_seq ?_ | refine G_skip ?_ | refine G_endblk ?_ | refine G_block ?_ | refine G_exit rfl ?_)
        refine G_region ?_
        refine GO_q rfl rfl (ev_build rfl rfl) ?_
        refine GO_eff rfl rfl (eff_storeN rfl rfl rfl rfl (by repeat' first | exact Upd.here rfl | apply Upd.skip | apply Upd.app)) ?_; rintro _ _ ⟨rfl, rfl⟩
        refine GO_q rfl rfl (ev_assign rfl) ?_
        refine GO_nil ?_
        (repeat first | refine G_seq ?_ | refine G_skip ?_ | refine G_endblk ?_ | refine G_block ?_ | refine G_exit rfl ?_)
        exact G_ret (L' := L) rfl (.cell rfl (loadN_run (by repeat' first | exact LdN.blk rfl | assumption | apply LdN.skip | apply LdN.app)) (.tmp rfl .nil)) (by (repeat first | exact fun _ s => s | apply en_keep | apply en_drop | apply en_app) <;> fail) ⟨⟨0, 0, 0, 0⟩, rfl, rfl⟩
      | true =>
        (repeat first | refine G_seq ?_ | refine G_skip ?_ | refine G_endblk ?_ | refine G_block ?_ | refine G_exit rfl ?_)
        refine G_cond_f rfl rfl ?_
        (repeat first | refine G_seq ?_ | refine G_skip ?_ | refine G_endblk ?_ | refine G_block ?_ | refine G_exit rfl ?_)
        refine G_region ?_
        refine GO_q rfl rfl (ev_loadN rfl (by repeat' first | exact LdN.blk rfl | assumption | apply LdN.skip | apply LdN.app)) ?_
        refine GO_eff rfl rfl (eff_storeN rfl rfl rfl rfl (by repeat' first | exact Upd.here rfl | apply Upd.skip | apply Upd.app)) ?_; rintro _ _ ⟨rfl, rfl⟩
        refine GO_q rfl rfl (ev_assign rfl) ?_
        refine GO_nil ?_
        (repeat first | refine G_seq ?_ | refine G_skip ?_ | refine G_endblk ?_ | refine G_block ?_ | refine G_exit rfl ?_)
        exact G_ret (L' := L) rfl (.cell rfl (loadN_run (by repeat' first | exact LdN.blk rfl | assumption | apply LdN.skip | apply LdN.app)) (.tmp rfl .nil)) (by (repeat first | exact fun _ s => s | apply en_keep | apply en_drop | apply en_app) <;> fail) ⟨metB a b, rfl, rfl⟩
theorem around_ctr (a b : Bx) (L : List HP) : Ctr Tryz.prog 92 #[a.v, b.v] L fun v L' => v = (arnd a b).v ∧ L' = L := by
  refine Ctr_of (fn := Tryz.f92) (n := 26) Tryz.func92 rfl rfl rfl ?_
  intro g F
  (repeat first | refine G_seq ?_ | refine G_skip ?_ | refine G_endblk ?_ | refine G_block ?_ | refine G_exit rfl ?_)
  refine G_region ?_
  refine GO_eff rfl rfl (eff_box rfl) ?_; rintro _ _ ⟨b2, rfl, rfl⟩
  refine GO_eff rfl rfl (eff_box rfl) ?_; rintro _ _ ⟨b3, rfl, rfl⟩
  refine GO_eff rfl rfl eff_alloc ?_; rintro _ _ ⟨b4, rfl, rfl⟩
  refine GO_nil ?_
  (repeat first | refine G_seq ?_ | refine G_skip ?_ | refine G_endblk ?_ | refine G_block ?_ | refine G_exit rfl ?_)
  refine G_region ?_
  refine GO_q rfl rfl (ev_fieldAddr rfl) ?_
  refine GO_q rfl rfl (ev_load rfl (by repeat' first | exact Ld.blk rfl | assumption | apply Ld.skip | apply Ld.app)) ?_
  refine GO_q rfl rfl (ev_fieldAddr rfl) ?_
  refine GO_q rfl rfl (ev_load rfl (by repeat' first | exact Ld.blk rfl | assumption | apply Ld.skip | apply Ld.app)) ?_
  refine GO_q rfl rfl (ev_min rfl rfl) ?_
  refine GO_q rfl rfl (ev_fieldAddr rfl) ?_
  refine GO_q rfl rfl (ev_load rfl (by repeat' first | exact Ld.blk rfl | assumption | apply Ld.skip | apply Ld.app)) ?_
  refine GO_q rfl rfl (ev_fieldAddr rfl) ?_
  refine GO_q rfl rfl (ev_load rfl (by repeat' first | exact Ld.blk rfl | assumption | apply Ld.skip | apply Ld.app)) ?_
  refine GO_q rfl rfl (ev_max rfl rfl) ?_
  refine GO_q rfl rfl (ev_fieldAddr rfl) ?_
  refine GO_q rfl rfl (ev_load rfl (by repeat' first | exact Ld.blk rfl | assumption | apply Ld.skip | apply Ld.app)) ?_
  refine GO_q rfl rfl (ev_fieldAddr rfl) ?_
  refine GO_q rfl rfl (ev_load rfl (by repeat' first | exact Ld.blk rfl | assumption | apply Ld.skip | apply Ld.app)) ?_
  refine GO_q rfl rfl (ev_min rfl rfl) ?_
  refine GO_q rfl rfl (ev_fieldAddr rfl) ?_
  refine GO_q rfl rfl (ev_load rfl (by repeat' first | exact Ld.blk rfl | assumption | apply Ld.skip | apply Ld.app)) ?_
  refine GO_q rfl rfl (ev_fieldAddr rfl) ?_
  refine GO_q rfl rfl (ev_load rfl (by repeat' first | exact Ld.blk rfl | assumption | apply Ld.skip | apply Ld.app)) ?_
  refine GO_q rfl rfl (ev_max rfl rfl) ?_
  refine GO_q rfl rfl (ev_build rfl rfl) ?_
  refine GO_eff rfl rfl (eff_storeN rfl rfl rfl rfl (by repeat' first | exact Upd.here rfl | apply Upd.skip | apply Upd.app)) ?_; rintro _ _ ⟨rfl, rfl⟩
  refine GO_nil ?_
  (repeat first | refine G_seq ?_ | refine G_skip ?_ | refine G_endblk ?_ | refine G_block ?_ | refine G_exit rfl ?_)
  refine G_ret rfl (.cell rfl (loadN_run (by repeat' first | exact LdN.blk rfl | assumption | apply LdN.skip | apply LdN.app)) .nil) (by (repeat first | exact fun _ s => s | apply en_keep | apply en_drop | apply en_app) <;> fail) ⟨rfl, rfl⟩
def kidN (lo hi : KT) : Nat → KT
  | 0 => lo
  | _ => hi
def nM (lo hi : KT) : Nat → Nat
  | 0 => 1
  | 1 => 1 + lo.size
  | _ => 1 + lo.size + hi.size
def nX (p : Pt) (lo hi : KT) : Nat → Bx
  | 0 => p.bx
  | 1 => arK p.bx lo
  | _ => arK (arK p.bx lo) hi
theorem nM_s (lo hi : KT) {k : Nat} (h : k < 2) : nM lo hi (k + 1) = nM lo hi k + (kidN lo hi k).size := by
  rcases (by omega : k = 0 ∨ k = 1) with rfl | rfl <;> rfl
theorem nX_s (p : Pt) (lo hi : KT) {k : Nat} (h : k < 2) : nX p lo hi (k + 1) = arK (nX p lo hi k) (kidN lo hi k) := by
  rcases (by omega : k = 0 ∨ k = 1) with rfl | rfl <;> rfl
theorem note_ctr (b : Nat) (p : Pt) (gn : Bool) (m : Nat) (x : Bx) (lo hi : KT) (L : List HP) (h1 : KIn L lo) (h2 : KIn L hi) (s1 : lo.size ≤ 100000) (s2 : hi.size ≤ 100000) :
    Ctr Tryz.prog 69 #[.pointer (some ⟨b, 0, none⟩)] (blk b 83 (kcC p gn lo.addr hi.addr m x) :: L) fun v L' => v = .pointer (some ⟨b, 0, none⟩) ∧ L' = blk b 83 (kcC p gn lo.addr hi.addr (1 + lo.size + hi.size) (arK (arK p.bx lo) hi)) :: L := by
  refine Ctr_of (fn := Tryz.f69) (n := 54) Tryz.func69 rfl rfl rfl ?_
  intro g F
  (repeat first | refine G_seq ?_ | refine G_skip ?_ | refine G_endblk ?_ | refine G_block ?_ | refine G_exit rfl ?_)
  refine G_region ?_
  refine GO_q rfl rfl (ev_assign rfl) ?_
  refine GO_nil ?_
  (repeat first | refine G_seq ?_ | refine G_skip ?_ | refine G_endblk ?_ | refine G_block ?_ | refine G_exit rfl ?_)
  refine G_region ?_
  refine GO_q rfl rfl (ev_move rfl) ?_
  (first | refine GO_q rfl rfl (ev_nilCheck rfl) ?_ | refine GO_q rfl rfl (ev_nilCheckF (by simp) rfl) ?_)
  refine GO_q rfl rfl (ev_fieldAddr rfl) ?_
  refine GO_eff rfl rfl (eff_store rfl rfl rfl (by repeat' first | exact Upd.here rfl | apply Upd.skip | apply Upd.app)) ?_; rintro _ _ ⟨rfl, rfl⟩
  refine GO_nil ?_
  (repeat first | refine G_seq ?_ | refine G_skip ?_ | refine G_endblk ?_ | refine G_block ?_ | refine G_exit rfl ?_)
  refine G_region ?_
  refine GO_q rfl rfl (ev_move rfl) ?_
  refine GO_q rfl rfl (ev_move rfl) ?_
  (first | refine GO_q rfl rfl (ev_nilCheck rfl) ?_ | refine GO_q rfl rfl (ev_nilCheckF (by simp) rfl) ?_)
  refine GO_q rfl rfl (ev_fieldAddr rfl) ?_
  refine GO_q rfl rfl (ev_loadN rfl (by repeat' first | exact LdN.blk rfl | assumption | apply LdN.skip | apply LdN.app)) ?_
  refine GO_eff rfl rfl (eff_buildSlice1 (by rfl) rfl rfl) ?_; rintro _ _ ⟨b14, rfl, rfl⟩
  refine GO_eff rfl rfl (eff_call rfl (Around1_ctr p _ 1 _ (Rc.blk rfl) (by decide))) ?_; rintro _ _ ⟨rfl, rfl⟩
  refine GO_q rfl rfl (ev_move rfl) ?_
  refine GO_q rfl rfl (ev_extract rfl rfl) ?_
  refine GO_q rfl rfl (ev_extract rfl rfl) ?_
  (first | refine GO_q rfl rfl (ev_nilCheck rfl) ?_ | refine GO_q rfl rfl (ev_nilCheckF (by simp) rfl) ?_)
  refine GO_q rfl rfl (ev_fieldAddr rfl) ?_
  refine GO_eff rfl rfl (eff_storeN rfl rfl rfl rfl (by repeat' first | exact Upd.here rfl | apply Upd.skip | apply Upd.app)) ?_; rintro _ _ ⟨rfl, rfl⟩
  refine GO_nil ?_
  (repeat first | refine G_seq ?_ | refine G_skip ?_ | refine G_endblk ?_ | refine G_block ?_ | refine G_exit rfl ?_)
  refine G_region ?_
  refine GO_q rfl rfl (ev_move rfl) ?_
  (first | refine GO_q rfl rfl (ev_nilCheck rfl) ?_ | refine GO_q rfl rfl (ev_nilCheckF (by simp) rfl) ?_)
  refine GO_q rfl rfl (ev_fieldAddr rfl) ?_
  refine GO_q rfl rfl (ev_loadN rfl (by repeat' first | exact LdN.blk rfl | assumption | apply LdN.skip | apply LdN.app)) ?_
  refine GO_q rfl rfl (ev_move rfl) ?_
  refine GO_nil ?_
  (repeat first | refine G_seq ?_ | refine G_skip ?_ | refine G_endblk ?_ | refine G_block ?_ | refine G_exit rfl ?_)
  refine G_loop (ι := Nat) (fun k => [(0, .pointer (some ⟨b, 0, none⟩)), (23, .agg #[.pointer lo.addr, .pointer hi.addr]), (24, .int .i64 (k : Nat))]) (fun k => blk b 83 (kcC p gn lo.addr hi.addr (nM lo hi k) (nX p lo hi k)) :: F :: L) (fun k => k ≤ 2) (fun k => 2 - k) 0 (by decide) ⟨rfl, rfl, rfl, trivial⟩ (by (repeat first | exact en_refl | (apply en_blk; focus ((repeat' first | exact Pick.here | apply Pick.skip | apply Pick.app); done); focus rfl) | (apply en_own; focus ((repeat' first | exact Pick.here | apply Pick.skip | apply Pick.app); done); focus rfl) | (apply en_pick; focus ((repeat' first | exact Pick.here | apply Pick.skip | apply Pick.app); done)) | apply en_drop | apply en_app) <;> fail) ?_
  rintro k hk
  have hk3 : k < 2 → ([.pointer lo.addr, .pointer hi.addr] : List Value)[k * 1]? = some (.pointer (kidN lo hi k).addr) := fun h => by
    rcases (by omega : k = 0 ∨ k = 1) with rfl | rfl <;> rfl
  have hi3 : KIn L (kidN lo hi k) := by
    unfold kidN; split
    · exact h1
    · exact h2
  have hs3 : (kidN lo hi k).size ≤ 100000 := by
    unfold kidN; split
    · exact s1
    · exact s2
  have hm3 : nM lo hi k ≤ 300000 := by
    unfold nM; split <;> omega
  (repeat first | refine G_seq ?_ | refine G_skip ?_ | refine G_endblk ?_ | refine G_block ?_ | refine G_exit rfl ?_)
  refine G_region ?_
  (first | refine GO_q rfl rfl (ev_lssN (q := 2) rfl rfl) ?_ | refine GO_q rfl rfl (ev_lss rfl rfl) ?_)
  refine GO_nil ?_
  (repeat first | refine G_seq ?_ | refine G_skip ?_ | refine G_endblk ?_ | refine G_block ?_ | refine G_exit rfl ?_)
  refine G_cond rfl (fun c1 => ?_) (fun c1 => ?_)
  · have hk2 : k < 2 := by omega
    have e1 := nM_s lo hi hk2
    have e2 := nX_s p lo hi hk2
    have e3 := hk3 hk2
    generalize kidN lo hi k = T at e1 e2 e3 hi3 hs3
    generalize nM lo hi k = m1 at *
    generalize nX p lo hi k = x1 at *
    (repeat first | refine G_seq ?_ | refine G_skip ?_ | refine G_endblk ?_ | refine G_block ?_ | refine G_exit rfl ?_)
    refine G_region ?_
    refine GO_q rfl rfl (ev_indexA (cs := [.pointer lo.addr, .pointer hi.addr]) (i := k) rfl rfl (by omega) e3) ?_
    refine GO_q rfl rfl (ev_assign rfl) ?_
    refine GO_nil ?_
    cases T with
    | nil =>
      (repeat first | refine G_seq ?_ | refine G_skip ?_ | refine G_endblk ?_ | refine G_block ?_ | refine G_exit rfl ?_)
      refine G_region ?_
      refine GO_q rfl rfl (ev_move rfl) ?_
      (first | refine GO_q rfl rfl (ev_neqNil rfl rfl) ?_ | refine GO_q rfl rfl (ev_neqPtr rfl rfl) ?_)
      refine GO_nil ?_
      (repeat first | refine G_seq ?_ | refine G_skip ?_ | refine G_endblk ?_ | refine G_block ?_ | refine G_exit rfl ?_)
      refine G_cond_f rfl rfl ?_
      (repeat first | refine G_seq ?_ | refine G_skip ?_ | refine G_endblk ?_ | refine G_block ?_ | refine G_exit rfl ?_)
      refine G_region ?_
      (first | refine GO_q rfl rfl (ev_addN (q := 1) rfl rfl (by first | omega | (simp; done) | (simp; omega))) ?_ | refine GO_q rfl rfl (ev_add rfl rfl (by first | omega | (simp; done) | (simp; omega))) ?_)
      refine GO_q rfl rfl (ev_move rfl) ?_
      refine GO_nil ?_
      (repeat first | refine G_seq ?_ | refine G_skip ?_ | refine G_endblk ?_ | refine G_block ?_ | refine G_exit rfl ?_)
      refine G_round (k + 1) (by show k + 1 ≤ 2; omega) (by show 2 - (k + 1) < 2 - k; omega) ⟨rfl, rfl, rfl, trivial⟩ ?_
      rw [e1, e2]
      exact (by (repeat first | exact fun _ s => s | apply en_keep | apply en_drop | apply en_app) <;> fail)
    | node b' p' g' m' x' lo' hi' =>
      obtain ⟨q1, q2, q3, q4, q5, q6, q7, q8, q9, q10⟩ := hi3.f
      simp only [KT.size] at hs3 e1
      (repeat first | refine G_seq ?_ | refine G_skip ?_ | refine G_endblk ?_ | refine G_block ?_ | refine G_exit rfl ?_)
      refine G_region ?_
      refine GO_q rfl rfl (ev_move rfl) ?_
      (first | refine GO_q rfl rfl (ev_neqNil rfl rfl) ?_ | refine GO_q rfl rfl (ev_neqPtr rfl rfl) ?_)
      refine GO_nil ?_
      (repeat first | refine G_seq ?_ | refine G_skip ?_ | refine G_endblk ?_ | refine G_block ?_ | refine G_exit rfl ?_)
      refine G_cond_t rfl rfl ?_
      (repeat first | refine G_seq ?_ | refine G_skip ?_ | refine G_endblk ?_ | refine G_block ?_ | refine G_exit rfl ?_)
      refine G_draw (.q 0 (.q 1 (.q 2 (.q 3 (.q 4 (.q 5 (.q 6 (.q 7 (.q 8 (.q 9 (.q 10 (.e 11 .nil)))))))))))) (by kernel_rfl) (by kernel_rfl) ?_
      refine RS_m retB_noPanic rfl rfl rfl rfl (ev_move rfl) ?_
      (first | refine RS_m retB_noPanic rfl rfl rfl rfl (ev_nilCheck rfl) ?_ | refine RS_m retB_noPanic rfl rfl rfl rfl (ev_nilCheckF (by simp) rfl) ?_)
      refine RS_m retB_noPanic rfl rfl rfl rfl (ev_fieldAddr rfl) ?_
      refine RS_q retB_noPanic rfl rfl rfl rfl (ev_load rfl (by repeat' first | exact Ld.blk rfl | assumption | apply Ld.skip | apply Ld.app)) ?_
      refine RS_m retB_noPanic rfl rfl rfl rfl (ev_move rfl) ?_
      (first | refine RS_m retB_noPanic rfl rfl rfl rfl (ev_nilCheck rfl) ?_ | refine RS_m retB_noPanic rfl rfl rfl rfl (ev_nilCheckF (by simp) rfl) ?_)
      refine RS_m retB_noPanic rfl rfl rfl rfl (ev_fieldAddr rfl) ?_
      refine RS_q retB_noPanic rfl rfl rfl rfl (ev_load rfl (by repeat' first | exact Ld.blk rfl | assumption | apply Ld.skip | apply Ld.app)) ?_
      (first | refine RS_m retB_noPanic rfl rfl rfl rfl (ev_addN rfl rfl (by first | omega | (simp; done) | (simp; omega))) ?_ | refine RS_m retB_noPanic rfl rfl rfl rfl (ev_add rfl rfl (by first | omega | (simp; done) | (simp; omega))) ?_)
      (first | refine RS_m retB_noPanic rfl rfl rfl rfl (ev_nilCheck rfl) ?_ | refine RS_m retB_noPanic rfl rfl rfl rfl (ev_nilCheckF (by simp) rfl) ?_)
      refine RS_m retB_noPanic rfl rfl rfl rfl (ev_fieldAddr rfl) ?_
      refine RS_e (RE_last (by kernel_rfl) rfl rfl rfl (eff_store rfl rfl rfl (by repeat' first | exact Upd.here rfl | apply Upd.skip | apply Upd.app)) ?_); rintro _ _ ⟨rfl, rfl⟩
      (repeat first | refine G_seq ?_ | refine G_skip ?_ | refine G_endblk ?_ | refine G_block ?_ | refine G_exit rfl ?_)
      refine G_draw (.q 0 (.q 1 (.q 2 (.q 3 (.q 4 (.q 5 (.q 6 (.q 7 (.q 8 (.e 9 (.q 10 (.q 11 (.e 12 .nil))))))))))))) (by kernel_rfl) (by kernel_rfl) ?_
      refine RS_m retB_noPanic rfl rfl rfl rfl (ev_move rfl) ?_
      refine RS_m retB_noPanic rfl rfl rfl rfl (ev_move rfl) ?_
      (first | refine RS_m retB_noPanic rfl rfl rfl rfl (ev_nilCheck rfl) ?_ | refine RS_m retB_noPanic rfl rfl rfl rfl (ev_nilCheckF (by simp) rfl) ?_)
      refine RS_m retB_noPanic rfl rfl rfl rfl (ev_fieldAddr rfl) ?_
      refine RS_q retB_noPanic rfl rfl rfl rfl (ev_loadN rfl (by repeat' first | exact LdN.blk rfl | assumption | apply LdN.skip | apply LdN.app)) ?_
      refine RS_m retB_noPanic rfl rfl rfl rfl (ev_move rfl) ?_
      (first | refine RS_m retB_noPanic rfl rfl rfl rfl (ev_nilCheck rfl) ?_ | refine RS_m retB_noPanic rfl rfl rfl rfl (ev_nilCheckF (by simp) rfl) ?_)
      refine RS_m retB_noPanic rfl rfl rfl rfl (ev_fieldAddr rfl) ?_
      refine RS_q retB_noPanic rfl rfl rfl rfl (ev_loadN rfl (by repeat' first | exact LdN.blk rfl | assumption | apply LdN.skip | apply LdN.app)) ?_
      refine RS_e (RE_eff rfl rfl rfl (eff_call rfl (around_ctr x1 x' _)) ?_); rintro _ _ ⟨rfl, rfl⟩; refine ⟨_, fun _ s => s, (by first | ((repeat first | exact fun _ s => s | apply en_keep | apply en_drop | apply en_app) <;> fail) | ((repeat first | exact en_refl | (apply en_blk; focus ((repeat' first | exact Pick.here | apply Pick.skip | apply Pick.app); done); focus rfl) | (apply en_own; focus ((repeat' first | exact Pick.here | apply Pick.skip | apply Pick.app); done); focus rfl) | (apply en_pick; focus ((repeat' first | exact Pick.here | apply Pick.skip | apply Pick.app); done)) | apply en_drop | apply en_app) <;> fail)), ?_⟩
      (first | refine RS_m retB_noPanic rfl rfl rfl rfl (ev_nilCheck rfl) ?_ | refine RS_m retB_noPanic rfl rfl rfl rfl (ev_nilCheckF (by simp) rfl) ?_)
      refine RS_m retB_noPanic rfl rfl rfl rfl (ev_fieldAddr rfl) ?_
      refine RS_e (RE_last (by kernel_rfl) rfl rfl rfl (eff_storeN rfl rfl rfl rfl (by repeat' first | exact Upd.here rfl | apply Upd.skip | apply Upd.app)) ?_); rintro _ _ ⟨rfl, rfl⟩
      (repeat first | refine G_seq ?_ | refine G_skip ?_ | refine G_endblk ?_ | refine G_block ?_ | refine G_exit rfl ?_)
      refine G_region ?_
      (first | refine GO_q rfl rfl (ev_addN (q := 1) rfl rfl (by first | omega | (simp; done) | (simp; omega))) ?_ | refine GO_q rfl rfl (ev_add rfl rfl (by first | omega | (simp; done) | (simp; omega))) ?_)
      refine GO_q rfl rfl (ev_move rfl) ?_
      refine GO_nil ?_
      (repeat first | refine G_seq ?_ | refine G_skip ?_ | refine G_endblk ?_ | refine G_block ?_ | refine G_exit rfl ?_)
      refine G_round (k + 1) (by show k + 1 ≤ 2; omega) (by show 2 - (k + 1) < 2 - k; omega) ⟨rfl, rfl, rfl, trivial⟩ ?_
      rw [e1, e2]
      exact (by (repeat first | exact en_refl | (apply en_blk; focus ((repeat' first | exact Pick.here | apply Pick.skip | apply Pick.app); done); focus rfl) | (apply en_own; focus ((repeat' first | exact Pick.here | apply Pick.skip | apply Pick.app); done); focus rfl) | (apply en_pick; focus ((repeat' first | exact Pick.here | apply Pick.skip | apply Pick.app); done)) | apply en_drop | apply en_app) <;> fail)
  · have hk2 : k = 2 := by omega
    subst hk2
    (repeat first | refine G_seq ?_ | refine G_skip ?_ | refine G_endblk ?_ | refine G_block ?_ | refine G_exit rfl ?_)
    refine G_region ?_
    refine GO_q rfl rfl (ev_move rfl) ?_
    refine GO_q rfl rfl (ev_assign rfl) ?_
    refine GO_nil ?_
    (repeat first | refine G_seq ?_ | refine G_skip ?_ | refine G_endblk ?_ | refine G_block ?_ | refine G_exit rfl ?_)
    exact G_ret (L' := blk b 83 (kcC p gn lo.addr hi.addr (1 + lo.size + hi.size) (arK (arK p.bx lo) hi)) :: L) rfl (.tmp rfl .nil) (by (repeat first | exact en_refl | (apply en_blk; focus ((repeat' first | exact Pick.here | apply Pick.skip | apply Pick.app); done); focus rfl) | (apply en_own; focus ((repeat' first | exact Pick.here | apply Pick.skip | apply Pick.app); done); focus rfl) | (apply en_pick; focus ((repeat' first | exact Pick.here | apply Pick.skip | apply Pick.app); done)) | apply en_drop | apply en_app) <;> fail) ⟨rfl, rfl⟩
theorem heavy_ctr (b : Nat) (p : Pt) (gn : Bool) (m : Nat) (x : Bx) (lo hi : KT) (L : List HP) (h : KIn L (.node b p gn m x lo hi)) (hm : m ≤ 1000000) :
    Ctr Tryz.prog 70 #[.pointer (some ⟨b, 0, none⟩)] L fun v L' => v = .bool (decide (prt m < max lo.size hi.size)) ∧ L' = L := by
  obtain ⟨q1, q2, q3, q4, q5, q6, q7, q8, q9, q10⟩ := h.f
  refine Ctr_of (fn := Tryz.f70) (n := 22) Tryz.func70 rfl rfl rfl ?_
  intro g F
  (repeat first | refine G_seq ?_ | refine G_skip ?_ | refine G_endblk ?_ | refine G_block ?_ | refine G_exit rfl ?_)
  refine G_region ?_
  refine GO_q rfl rfl (ev_assign rfl) ?_
  refine GO_nil ?_
  (repeat first | refine G_seq ?_ | refine G_skip ?_ | refine G_endblk ?_ | refine G_block ?_ | refine G_exit rfl ?_)
  refine G_draw (.q 0 (.q 1 (.q 2 (.q 3 (.q 4 (.q 6 (.q 7 (.q 8 (.q 9 (.q 10 (.q 13 (.q 14 (.q 15 (.q 16 (.e 5 (.e 11 (.q 12 (.e 17 (.q 18 (.q 19 .nil)))))))))))))))))))) (by kernel_rfl) (by kernel_rfl) ?_
  refine RS_m retB_noPanic rfl rfl rfl rfl (ev_move rfl) ?_
  (first | refine RS_m retB_noPanic rfl rfl rfl rfl (ev_nilCheck rfl) ?_ | refine RS_m retB_noPanic rfl rfl rfl rfl (ev_nilCheckF (by simp) rfl) ?_)
  refine RS_m retB_noPanic rfl rfl rfl rfl (ev_fieldAddr rfl) ?_
  refine RS_m retB_noPanic rfl rfl rfl rfl (ev_indexAddrA rfl rfl (by first | omega | (simp; done) | (simp; omega)) (by first | omega | (simp; done) | (simp; omega))) ?_
  refine RS_q retB_noPanic rfl rfl rfl rfl (ev_load rfl (by repeat' first | exact Ld.blk rfl | assumption | apply Ld.skip | apply Ld.app)) ?_
  refine RS_m retB_noPanic rfl rfl rfl rfl (ev_move rfl) ?_
  (first | refine RS_m retB_noPanic rfl rfl rfl rfl (ev_nilCheck rfl) ?_ | refine RS_m retB_noPanic rfl rfl rfl rfl (ev_nilCheckF (by simp) rfl) ?_)
  refine RS_m retB_noPanic rfl rfl rfl rfl (ev_fieldAddr rfl) ?_
  refine RS_m retB_noPanic rfl rfl rfl rfl (ev_indexAddrA rfl rfl (by first | omega | (simp; done) | (simp; omega)) (by first | omega | (simp; done) | (simp; omega))) ?_
  refine RS_q retB_noPanic rfl rfl rfl rfl (ev_load rfl (by repeat' first | exact Ld.blk rfl | assumption | apply Ld.skip | apply Ld.app)) ?_
  refine RS_m retB_noPanic rfl rfl rfl rfl (ev_move rfl) ?_
  (first | refine RS_m retB_noPanic rfl rfl rfl rfl (ev_nilCheck rfl) ?_ | refine RS_m retB_noPanic rfl rfl rfl rfl (ev_nilCheckF (by simp) rfl) ?_)
  refine RS_m retB_noPanic rfl rfl rfl rfl (ev_fieldAddr rfl) ?_
  refine RS_q retB_noPanic rfl rfl rfl rfl (ev_load rfl (by repeat' first | exact Ld.blk rfl | assumption | apply Ld.skip | apply Ld.app)) ?_
  refine RS_e (RE_eff rfl rfl rfl (eff_call rfl (ksize_ctr lo _ q9.skip)) ?_); rintro _ _ ⟨rfl, rfl⟩; refine ⟨_, fun _ s => s, (by first | ((repeat first | exact fun _ s => s | apply en_keep | apply en_drop | apply en_app) <;> fail) | ((repeat first | exact en_refl | (apply en_blk; focus ((repeat' first | exact Pick.here | apply Pick.skip | apply Pick.app); done); focus rfl) | (apply en_own; focus ((repeat' first | exact Pick.here | apply Pick.skip | apply Pick.app); done); focus rfl) | (apply en_pick; focus ((repeat' first | exact Pick.here | apply Pick.skip | apply Pick.app); done)) | apply en_drop | apply en_app) <;> fail)), ?_⟩
  refine RS_e (RE_eff rfl rfl rfl (eff_call rfl (ksize_ctr hi _ q10.skip)) ?_); rintro _ _ ⟨rfl, rfl⟩; refine ⟨_, fun _ s => s, (by first | ((repeat first | exact fun _ s => s | apply en_keep | apply en_drop | apply en_app) <;> fail) | ((repeat first | exact en_refl | (apply en_blk; focus ((repeat' first | exact Pick.here | apply Pick.skip | apply Pick.app); done); focus rfl) | (apply en_own; focus ((repeat' first | exact Pick.here | apply Pick.skip | apply Pick.app); done); focus rfl) | (apply en_pick; focus ((repeat' first | exact Pick.here | apply Pick.skip | apply Pick.app); done)) | apply en_drop | apply en_app) <;> fail)), ?_⟩
  refine RS_q retB_noPanic rfl rfl rfl rfl (ev_max rfl rfl) ?_
  refine RS_e (RE_eff rfl rfl rfl (eff_call rfl (kpart_ctr m _ (by omega))) ?_); rintro _ _ ⟨rfl, rfl⟩; refine ⟨_, fun _ s => s, (by first | ((repeat first | exact fun _ s => s | apply en_keep | apply en_drop | apply en_app) <;> fail) | ((repeat first | exact en_refl | (apply en_blk; focus ((repeat' first | exact Pick.here | apply Pick.skip | apply Pick.app); done); focus rfl) | (apply en_own; focus ((repeat' first | exact Pick.here | apply Pick.skip | apply Pick.app); done); focus rfl) | (apply en_pick; focus ((repeat' first | exact Pick.here | apply Pick.skip | apply Pick.app); done)) | apply en_drop | apply en_app) <;> fail)), ?_⟩
  refine RS_m retB_noPanic rfl rfl rfl rfl (ev_gtr rfl rfl) ?_
  refine RS_m retB_noPanic rfl rfl rfl rfl (ev_assign rfl) ?_
  refine RS_nil ?_
  (repeat first | refine G_seq ?_ | refine G_skip ?_ | refine G_endblk ?_ | refine G_block ?_ | refine G_exit rfl ?_)
  refine G_ret rfl (.tmp rfl .nil) (by (repeat first | exact fun _ s => s | apply en_keep | apply en_drop | apply en_app) <;> fail) ⟨congrArg Value.bool (decide_eq_decide.2 (by omega)), rfl⟩
end Go.Proofs.YtjgdhkilnalejaaGreat
/- A tree of points by two orders in turn: each, points, find. -/
namespace Go.Proofs.YtjgdhkilnalejaaGreat
attribute [local irreducible] sat
open Go.RowKit
set_option linter.unusedVariables false
set_option linter.unusedSimpArgs false
set_option maxRecDepth 100000

theorem keach_ctr {α : Type} {fid : FuncId} {c1 c2 : List Value} [CalT Tryz.prog fid] (V : α → HP) (L : List HP) (step : α → Pt → Bool → Bx → Bool × α) (ok : α → Nat → Prop) (Q : Pt → Prop)
    (o1 : ∀ s n p gn x, ok s (n + 1) → ok (step s p gn x).2 n) (o2 : ∀ s n m, ok s n → m ≤ n → ok s m)
    (hf : ∀ s n b p gn m x lo hi, ok s (n + 1) → Q p → KIn L (.node b p gn m x lo hi) → Ctr Tryz.prog fid (c1 ++ [Value.pointer (some ⟨b, 0, none⟩)] ++ c2).toArray (V s :: L) fun v L' => v = .bool (step s p gn x).1 ∧ L' = V (step s p gn x).2 :: L) :
    ∀ (T : KT) (s : α) (n : Nat), ok s (T.cnt + n) → (∀ p ∈ T.all, Q p) → KIn L T → Ctr Tryz.prog 88 #[.pointer T.addr, .func (.func fid) c1.toArray c2.toArray] (V s :: L) fun v L' => v = .tuple #[] ∧ L' = V (T.run step s) :: L
  | .nil, s, n, hok, hQ, hin => by
    refine Ctr_of (fn := Tryz.f88) (n := 26) Tryz.func88 rfl rfl rfl ?_
    intro g F
    (repeat first | refine G_seq ?_ | refine G_skip ?_ | refine G_endblk ?_ | refine G_block ?_ | refine G_exit rfl ?_)
    refine G_region ?_
    refine GO_q rfl rfl (ev_move rfl) ?_
    (first | refine GO_q rfl rfl (ev_eqlNil rfl rfl) ?_ | refine GO_q rfl rfl (ev_eqlPtr rfl rfl) ?_)
    refine GO_q rfl rfl (ev_move rfl) ?_
    refine GO_no rfl rfl rfl rfl ?_
    refine GO_no rfl rfl rfl rfl ?_
    refine GO_no rfl rfl rfl rfl ?_
    refine GO_no rfl rfl rfl rfl ?_
    refine GO_q rfl rfl (ev_pick_t rfl rfl rfl) ?_
    refine GO_nil ?_
    (repeat first | refine G_seq ?_ | refine G_skip ?_ | refine G_endblk ?_ | refine G_block ?_ | refine G_exit rfl ?_)
    refine G_cond_t rfl rfl ?_
    (repeat first | refine G_seq ?_ | refine G_skip ?_ | refine G_endblk ?_ | refine G_block ?_ | refine G_exit rfl ?_)
    exact G_ret (rs := []) (vs := []) (L' := V s :: L) rfl .nil (by (repeat first | exact fun _ s => s | apply en_keep | apply en_drop | apply en_app) <;> fail) ⟨rfl, rfl⟩
  | .node b p gn m x lo hi, s, n, hok, hQ, hin => by
    obtain ⟨q1, q2, q3, q4, q5, q6, q7, q8, q9, q10⟩ := hin.f
    simp only [KT.cnt] at hok
    have k1 := o1 s (lo.cnt + hi.cnt + n) p gn x (by have e : lo.cnt + hi.cnt + n + 1 = lo.cnt + hi.cnt + 1 + n := by omega
                                                     rw [e]; exact hok)
    have hf1 := hf s (lo.cnt + hi.cnt + n) b p gn m x lo hi (by have e : lo.cnt + hi.cnt + n + 1 = lo.cnt + hi.cnt + 1 + n := by omega
                                                                rw [e]; exact hok) (hQ p (by simp [KT.all])) hin
    have ih1 := keach_ctr V L step ok Q o1 o2 hf lo (step s p gn x).2 (hi.cnt + n) (by rw [← Nat.add_assoc]; exact k1) (fun r hr => hQ r (by simp [KT.all, hr])) q9
    have k2 := lo.run_ok o1 o2 (step s p gn x).2 (hi.cnt + n) (by rw [← Nat.add_assoc]; exact k1)
    have ih2 := keach_ctr V L step ok Q o1 o2 hf hi (lo.run step (step s p gn x).2) n k2 (fun r hr => hQ r (by simp [KT.all, hr])) q10
    have er : KT.run step s (.node b p gn m x lo hi) = if (step s p gn x).1 then hi.run step (lo.run step (step s p gn x).2) else (step s p gn x).2 := rfl
    rw [er]
    generalize (step s p gn x).1 = d at *
    generalize (step s p gn x).2 = s2 at *
    refine Ctr_of (fn := Tryz.f88) (n := 26) Tryz.func88 rfl rfl rfl ?_
    intro g F
    (repeat first | refine G_seq ?_ | refine G_skip ?_ | refine G_endblk ?_ | refine G_block ?_ | refine G_exit rfl ?_)
    refine G_region ?_
    refine GO_q rfl rfl (ev_move rfl) ?_
    (first | refine GO_q rfl rfl (ev_eqlNil rfl rfl) ?_ | refine GO_q rfl rfl (ev_eqlPtr rfl rfl) ?_)
    refine GO_q rfl rfl (ev_move rfl) ?_
    refine GO_yes rfl rfl rfl rfl ?_
    refine GO_q rfl rfl (ev_move rfl) ?_
    refine GO_yes rfl rfl rfl rfl ?_
    refine GO_q rfl rfl (ev_move rfl) ?_
    refine GO_yes rfl rfl rfl rfl ?_
    refine GO_eff rfl rfl (eff_callv rfl rfl (Ctr.frame [F] hf1 (fun _ s => s))) ?_; rintro _ _ ⟨M2, ⟨rfl, rfl⟩, rfl⟩
    refine GO_yes rfl rfl rfl rfl ?_
    refine GO_q rfl rfl (ev_not rfl) ?_
    refine GO_q rfl rfl (ev_pick_f rfl rfl rfl) ?_
    refine GO_nil ?_
    cases d with
    | false =>
      (repeat first | refine G_seq ?_ | refine G_skip ?_ | refine G_endblk ?_ | refine G_block ?_ | refine G_exit rfl ?_)
      refine G_cond_t rfl rfl ?_
      (repeat first | refine G_seq ?_ | refine G_skip ?_ | refine G_endblk ?_ | refine G_block ?_ | refine G_exit rfl ?_)
      exact G_ret (rs := []) (vs := []) (L' := V s2 :: L) rfl .nil (by (repeat first | exact fun _ s => s | apply en_keep | apply en_drop | apply en_app) <;> fail) ⟨rfl, rfl⟩
    | true =>
      (repeat first | refine G_seq ?_ | refine G_skip ?_ | refine G_endblk ?_ | refine G_block ?_ | refine G_exit rfl ?_)
      refine G_cond_f rfl rfl ?_
      (repeat first | refine G_seq ?_ | refine G_skip ?_ | refine G_endblk ?_ | refine G_block ?_ | refine G_exit rfl ?_)
      refine G_region ?_
      refine GO_q rfl rfl (ev_move rfl) ?_
      (first | refine GO_q rfl rfl (ev_nilCheck rfl) ?_ | refine GO_q rfl rfl (ev_nilCheckF (by simp) rfl) ?_)
      refine GO_q rfl rfl (ev_fieldAddr rfl) ?_
      refine GO_q rfl rfl (ev_indexAddrA rfl rfl (by first | omega | (simp; done) | (simp; omega)) (by first | omega | (simp; done) | (simp; omega))) ?_
      refine GO_q rfl rfl (ev_load rfl (by repeat' first | exact Ld.blk rfl | assumption | apply Ld.skip | apply Ld.app)) ?_
      refine GO_q rfl rfl (ev_move rfl) ?_
      refine GO_eff rfl rfl (eff_call rfl (Ctr.frame [F] ih1 (fun _ s => s))) ?_; rintro _ _ ⟨M2, ⟨rfl, rfl⟩, rfl⟩
      refine GO_nil ?_
      (repeat first | refine G_seq ?_ | refine G_skip ?_ | refine G_endblk ?_ | refine G_block ?_ | refine G_exit rfl ?_)
      refine G_region ?_
      refine GO_q rfl rfl (ev_move rfl) ?_
      (first | refine GO_q rfl rfl (ev_nilCheck rfl) ?_ | refine GO_q rfl rfl (ev_nilCheckF (by simp) rfl) ?_)
      refine GO_q rfl rfl (ev_fieldAddr rfl) ?_
      refine GO_q rfl rfl (ev_indexAddrA rfl rfl (by first | omega | (simp; done) | (simp; omega)) (by first | omega | (simp; done) | (simp; omega))) ?_
      refine GO_q rfl rfl (ev_load rfl (by repeat' first | exact Ld.blk rfl | assumption | apply Ld.skip | apply Ld.app)) ?_
      refine GO_q rfl rfl (ev_move rfl) ?_
      refine GO_eff rfl rfl (eff_call rfl (Ctr.frame [F] ih2 (fun _ s => s))) ?_; rintro _ _ ⟨M2, ⟨rfl, rfl⟩, rfl⟩
      refine GO_nil ?_
      (repeat first | refine G_seq ?_ | refine G_skip ?_ | refine G_endblk ?_ | refine G_block ?_ | refine G_exit rfl ?_)
      exact G_end (rs := []) (vs := []) (L' := V (hi.run step (lo.run step s2)) :: L) rfl .nil (by (repeat first | exact fun _ s => s | apply en_keep | apply en_drop | apply en_app) <;> fail) ⟨rfl, rfl⟩
/-- Points that are gathered. -/
def ptV (vv : Nat) (l : List Pt) : HP := fun h => ∃ a c, ((0 < l.length → ∃ b, a = some ⟨b, 0, none⟩) ∧ l.length ≤ c ∧ c ≤ maxLen) ∧ sat [own 58 3 a l.length c (flat l), blk vv 54 [.slice a l.length c]] h
theorem G_ptV {P : Program} {B : Exit → Act → World → Prop} {gl : Glob} {n : Nat} {K : List Kt} {σ : Env} {L : List HP} {vv : Nat} {l : List Pt} (h : ∀ a c, ((0 < l.length → ∃ b, a = some ⟨b, 0, none⟩) ∧ l.length ≤ c ∧ c ≤ maxLen) → G P B gl n K σ (own 58 3 a l.length c (flat l) :: blk vv 54 [.slice a l.length c] :: L)) : G P B gl n K σ (ptV vv l :: L) :=
  G_open (ι := Option Addr × Nat) (F := fun i => (0 < l.length → ∃ b, i.1 = some ⟨b, 0, none⟩) ∧ l.length ≤ i.2 ∧ i.2 ≤ maxLen) (N := fun i => [own 58 3 i.1 l.length i.2 (flat l), blk vv 54 [.slice i.1 l.length i.2]]) (fun _ ⟨a, c, hh, hs⟩ => ⟨(a, c), hh, hs⟩) fun i hi => h i.1 i.2 hi
theorem en_ptV {L M : List HP} {vv n : Nat} {l : List Pt} {vs : List Value} {a : Option Addr} {c : Nat} (hn : l.length = n) (hv : flat l = vs) (f1 : 0 < n → ∃ b, a = some ⟨b, 0, none⟩) (f2 : n ≤ c) (f3 : c ≤ maxLen) (f : ∀ h, sat L h → sat (own 58 3 a n c vs :: blk vv 54 [.slice a n c] :: M) h) : ∀ h, sat L h → sat (ptV vv l :: M) h := fun h s => by
  subst hn hv
  exact sat.fold (N := [own 58 3 a l.length c (flat l), blk vv 54 [.slice a l.length c]]) (fun _ hh => ⟨a, c, ⟨f1, f2, f3⟩, hh⟩) (f h s)
def ptOk (l : List Pt) (n : Nat) : Prop := l.length + n ≤ 500000
theorem kpts_ctr (vv : Nat) (l : List Pt) (n b : Nat) (p : Pt) (gn : Bool) (m : Nat) (x : Bx) (lo hi : KT) (L : List HP) (hok : ptOk l (n + 1)) (hin : KIn L (.node b p gn m x lo hi)) :
    Ctr Tryz.prog 89 #[.pointer (some ⟨b, 0, none⟩), .pointer (some ⟨vv, 0, none⟩)] (ptV vv l :: L) fun v L' => v = .bool (ptStep l p gn x).1 ∧ L' = ptV vv (ptStep l p gn x).2 :: L := by
  unfold ptOk at hok
  obtain ⟨q1, q2, q3, q4, q5, q6, q7, q8, q9, q10⟩ := hin.f
  refine Ctr_of (fn := Tryz.f89) (n := 16) Tryz.func89 rfl rfl rfl ?_
  intro g F
  (repeat first | refine G_seq ?_ | refine G_skip ?_ | refine G_endblk ?_ | refine G_block ?_ | refine G_exit rfl ?_)
  refine G_region ?_
  refine GO_q rfl rfl (ev_assign rfl) ?_
  refine GO_nil ?_
  refine G_heap (L' := ptV vv l :: F :: L) (by (repeat first | exact en_refl | (apply en_blk; focus ((repeat' first | exact Pick.here | apply Pick.skip | apply Pick.app); done); focus rfl) | (apply en_own; focus ((repeat' first | exact Pick.here | apply Pick.skip | apply Pick.app); done); focus rfl) | (apply en_pick; focus ((repeat' first | exact Pick.here | apply Pick.skip | apply Pick.app); done)) | apply en_drop | apply en_app) <;> fail) ?_
  refine G_ptV ?_
  rintro a c ⟨f1, f2, f3⟩
  (repeat first | refine G_seq ?_ | refine G_skip ?_ | refine G_endblk ?_ | refine G_block ?_ | refine G_exit rfl ?_)
  refine G_region ?_
  refine GO_q rfl rfl (ev_move rfl) ?_
  (first | refine GO_q rfl rfl (ev_nilCheck rfl) ?_ | refine GO_q rfl rfl (ev_nilCheckF (by simp) rfl) ?_)
  refine GO_q rfl rfl (ev_fieldAddr rfl) ?_
  refine GO_q rfl rfl (ev_load rfl (by repeat' first | exact Ld.blk rfl | assumption | apply Ld.skip | apply Ld.app)) ?_
  refine GO_q rfl rfl (ev_not rfl) ?_
  refine GO_nil ?_
  cases gn with
  | true =>
    (repeat first | refine G_seq ?_ | refine G_skip ?_ | refine G_endblk ?_ | refine G_block ?_ | refine G_exit rfl ?_)
    refine G_cond_f rfl rfl ?_
    (repeat first | refine G_seq ?_ | refine G_skip ?_ | refine G_endblk ?_ | refine G_block ?_ | refine G_exit rfl ?_)
    refine G_region ?_
    refine GO_q rfl rfl (ev_assign rfl) ?_
    refine GO_nil ?_
    (repeat first | refine G_seq ?_ | refine G_skip ?_ | refine G_endblk ?_ | refine G_block ?_ | refine G_exit rfl ?_)
    exact G_ret (L' := ptV vv l :: L) rfl (.tmp rfl .nil) (by (repeat first | exact en_refl | refine en_ptV rfl rfl f1 f2 f3 ?_ | (apply en_blk; focus ((repeat' first | exact Pick.here | apply Pick.skip | apply Pick.app); done); focus rfl) | (apply en_own; focus ((repeat' first | exact Pick.here | apply Pick.skip | apply Pick.app); done); focus rfl) | (apply en_pick; focus ((repeat' first | exact Pick.here | apply Pick.skip | apply Pick.app); done)) | apply en_drop | apply en_app) <;> fail) ⟨rfl, rfl⟩
  | false =>
    (repeat first | refine G_seq ?_ | refine G_skip ?_ | refine G_endblk ?_ | refine G_block ?_ | refine G_exit rfl ?_)
    refine G_cond_t rfl rfl ?_
    (repeat first | refine G_seq ?_ | refine G_skip ?_ | refine G_endblk ?_ | refine G_block ?_ | refine G_exit rfl ?_)
    refine G_draw (.q 0 (.q 1 (.q 2 (.q 3 (.q 4 (.e 5 (.e 6 (.e 7 .nil)))))))) (by kernel_rfl) (by kernel_rfl) ?_
    refine RS_q retB_noPanic rfl rfl rfl rfl (ev_load rfl (by repeat' first | exact Ld.blk rfl | assumption | apply Ld.skip | apply Ld.app)) ?_
    refine RS_m retB_noPanic rfl rfl rfl rfl (ev_move rfl) ?_
    (first | refine RS_m retB_noPanic rfl rfl rfl rfl (ev_nilCheck rfl) ?_ | refine RS_m retB_noPanic rfl rfl rfl rfl (ev_nilCheckF (by simp) rfl) ?_)
    refine RS_m retB_noPanic rfl rfl rfl rfl (ev_fieldAddr rfl) ?_
    refine RS_q retB_noPanic rfl rfl rfl rfl (ev_loadN rfl (by repeat' first | exact LdN.blk rfl | assumption | apply LdN.skip | apply LdN.app)) ?_
    refine RS_e (RE_eff rfl rfl rfl (eff_buildSlice1 (by rfl) rfl rfl) ?_); rintro _ _ ⟨b14, rfl, rfl⟩; refine ⟨_, fun _ s => s, (by first | ((repeat first | exact fun _ s => s | apply en_keep | apply en_drop | apply en_app) <;> fail) | ((repeat first | exact en_refl | (apply en_blk; focus ((repeat' first | exact Pick.here | apply Pick.skip | apply Pick.app); done); focus rfl) | (apply en_own; focus ((repeat' first | exact Pick.here | apply Pick.skip | apply Pick.app); done); focus rfl) | (apply en_pick; focus ((repeat' first | exact Pick.here | apply Pick.skip | apply Pick.app); done)) | apply en_drop | apply en_app) <;> fail)), ?_⟩
    refine RS_e (RE_cmp (by kernel_rfl) rfl rfl rfl (eff_append rfl rfl (by repeat' first | exact Pick.here | apply Pick.skip) (by repeat' first | exact Rc.blk rfl | assumption | apply Rc.skip) (one_all rfl) (by rfl) (by decide) (by first | omega | (simp; done) | (simp; omega)) (by first | omega | (simp; done) | (simp; omega))) ?_); rintro _ _ ⟨A15, c15, rfl, hc15, hm15, hn15, rfl⟩
    refine RS_e (RE_last (by kernel_rfl) rfl rfl rfl (eff_store rfl rfl rfl (by repeat' first | exact Upd.here rfl | apply Upd.skip | apply Upd.app)) ?_); rintro _ _ ⟨rfl, rfl⟩
    (repeat first | refine G_seq ?_ | refine G_skip ?_ | refine G_endblk ?_ | refine G_block ?_ | refine G_exit rfl ?_)
    refine G_region ?_
    refine GO_q rfl rfl (ev_assign rfl) ?_
    refine GO_nil ?_
    (repeat first | refine G_seq ?_ | refine G_skip ?_ | refine G_endblk ?_ | refine G_block ?_ | refine G_exit rfl ?_)
    exact G_ret (L' := ptV vv (l ++ [p]) :: L) rfl (.tmp rfl .nil) (by (repeat first | exact en_refl | refine en_ptV (a := A15) (c := c15) (n := l.length + 1) (vs := flat l ++ flat [p]) (by simp) (by simp [flat]) hn15 hc15 hm15 ?_ | (apply en_blk; focus ((repeat' first | exact Pick.here | apply Pick.skip | apply Pick.app); done); focus rfl) | (apply en_own; focus ((repeat' first | exact Pick.here | apply Pick.skip | apply Pick.app); done); focus rfl) | (apply en_pick; focus ((repeat' first | exact Pick.here | apply Pick.skip | apply Pick.app); done)) | apply en_drop | apply en_app) <;> fail) ⟨rfl, rfl⟩
theorem kpoints_ctr (T : KT) (L : List HP) (hin : KIn L T) (hn : T.cnt ≤ 400000) :
    Ctr Tryz.prog 66 #[.pointer T.addr] L fun v L' => ∃ a c, v = .slice a T.pts.length c ∧ ((0 < T.pts.length → ∃ b, a = some ⟨b, 0, none⟩) ∧ T.pts.length ≤ c ∧ c ≤ maxLen) ∧ L' = own 58 3 a T.pts.length c (flat T.pts) :: L := by
  have hrun := T.run_pts []
  rw [List.nil_append] at hrun
  refine Ctr_of (fn := Tryz.f66) (n := 8) Tryz.func66 rfl rfl rfl ?_
  intro g F
  (repeat first | refine G_seq ?_ | refine G_skip ?_ | refine G_endblk ?_ | refine G_block ?_ | refine G_exit rfl ?_)
  refine G_region ?_
  refine GO_q rfl rfl (ev_assign rfl) ?_
  refine GO_nil ?_
  (repeat first | refine G_seq ?_ | refine G_skip ?_ | refine G_endblk ?_ | refine G_block ?_ | refine G_exit rfl ?_)
  refine G_region ?_
  refine GO_eff rfl rfl eff_alloc ?_; rintro _ _ ⟨b3, rfl, rfl⟩
  refine GO_nil ?_
  refine G_heap (own.nil_ 58 3) ?_
  refine G_heap (L' := ptV b3 [] :: F :: L) (by (repeat first | exact en_refl | refine en_ptV (a := none) (c := 0) (n := 0) (vs := []) rfl rfl (fun h => absurd h (Nat.lt_irrefl 0)) (Nat.le_refl 0) (Nat.zero_le _) ?_ | (apply en_blk; focus ((repeat' first | exact Pick.here | apply Pick.skip | apply Pick.app); done); focus rfl) | (apply en_own; focus ((repeat' first | exact Pick.here | apply Pick.skip | apply Pick.app); done); focus rfl) | (apply en_pick; focus ((repeat' first | exact Pick.here | apply Pick.skip | apply Pick.app); done)) | apply en_drop | apply en_app) <;> fail) ?_
  have he := keach_ctr (fid := 89) (c1 := []) (c2 := [.pointer (some ⟨b3, 0, none⟩)]) (ptV b3) (F :: L) ptStep ptOk (fun _ => True) (fun s n p gn x h => by unfold ptOk ptStep at *; cases gn <;> simp <;> omega) (fun s n m h h' => by unfold ptOk at *; omega)
    (fun s n b p gn m x lo hi h _ hi2 => kpts_ctr b3 s n b p gn m x lo hi (F :: L) h hi2) T [] 0 (by unfold ptOk; simp; omega) (fun _ _ => trivial) hin.skip
  rw [hrun] at he
  (repeat first | refine G_seq ?_ | refine G_skip ?_ | refine G_endblk ?_ | refine G_block ?_ | refine G_exit rfl ?_)
  refine G_region ?_
  refine GO_q rfl rfl (ev_move rfl) ?_
  refine GO_q rfl rfl (ev_makeFunc rfl rfl) ?_
  refine GO_eff rfl rfl (eff_call rfl (he)) ?_; rintro _ _ ⟨rfl, rfl⟩
  refine GO_nil ?_
  refine G_ptV ?_
  rintro a c ⟨f1, f2, f3⟩
  (repeat first | refine G_seq ?_ | refine G_skip ?_ | refine G_endblk ?_ | refine G_block ?_ | refine G_exit rfl ?_)
  refine G_region ?_
  refine GO_q rfl rfl (ev_load rfl (by repeat' first | exact Ld.blk rfl | assumption | apply Ld.skip | apply Ld.app)) ?_
  refine GO_q rfl rfl (ev_assign rfl) ?_
  refine GO_nil ?_
  (repeat first | refine G_seq ?_ | refine G_skip ?_ | refine G_endblk ?_ | refine G_block ?_ | refine G_exit rfl ?_)
  exact G_ret (L' := own 58 3 a T.pts.length c (flat T.pts) :: L) rfl (.tmp rfl .nil) (by (repeat first | exact en_refl | (apply en_blk; focus ((repeat' first | exact Pick.here | apply Pick.skip | apply Pick.app); done); focus rfl) | (apply en_own; focus ((repeat' first | exact Pick.here | apply Pick.skip | apply Pick.app); done); focus rfl) | (apply en_pick; focus ((repeat' first | exact Pick.here | apply Pick.skip | apply Pick.app); done)) | apply en_drop | apply en_app) <;> fail) ⟨a, c, rfl, ⟨f1, f2, f3⟩, rfl⟩
end Go.Proofs.YtjgdhkilnalejaaGreat
