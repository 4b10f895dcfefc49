/- Texts of the law RtcurLess, one behind the other. -/
import Derived.Test.YtejcamnnfmphkaaGreatRtcurLessM1
import Derived.Test.YtejcamnnfmphkaaGreatRtcurLessM2
/- Lists in order, by any order that has no equal ones: the walks (out of master/so.master). -/
namespace Go.Proofs.YtejcamnnfmphkaaGreat
attribute [local irreducible] sat
set_option linter.unusedVariables false
set_option linter.unusedSimpArgs false
set_option maxRecDepth 100000

/-- A function that tells of an order. -/
structure LsT (f : FuncId) (ls : Pt → Pt → Bool) : Prop where
  ctr : ∀ (p q : Pt) (L : List HP), Ctr Tryz.prog f #[p.v, q.v] L fun v L' => v = .bool (ls p q) ∧ L' = L
theorem ld_ownP {b n c i : Nat} {T : TypeId} {l : List Pt} {x : Pt} (hn : l.length = n) (h : l[i]? = some x) (L : List HP) : LdN (own T 3 (some ⟨b, 0, none⟩) n c (flat l) :: L) b (0 + i * 3) 3 [.int .i64 x.id, .int .i64 x.x, .int .i64 x.y] := by
  have hlt : i < l.length := (List.getElem?_eq_some_iff.1 h).1
  have r : Rd (own T 3 (some ⟨b, 0, none⟩) n c (flat l) :: L) (some ⟨b, 0, none⟩) n l := Rc.own (by rw [flat_length, hn]; rfl) (fun _ => ⟨b, rfl⟩)
  obtain ⟨_, _, e, hx⟩ := r.at_ (by omega)
  cases e
  exact hx i x h
theorem by_swapP {A R : List Pt} {x p : Pt} {k : Nat} (hk : k = A.length + 1) : ((A ++ p :: x :: R).set k p).set (k - 1) x = A ++ x :: p :: R ∧ (A ++ p :: x :: R)[k]? = some x ∧ (A ++ p :: x :: R)[k - 1]? = some p := by
  subst hk
  refine ⟨?_, ?_, ?_⟩
  · simp [List.set_append]
  · simp [List.getElem?_append]
  · simp
theorem setN_pt (l : List Pt) (i : Nat) (a : Pt) (hi : i < l.length) : setN (flat l) (0 + i * 3) [.int .i64 a.id, .int .i64 a.x, .int .i64 a.y] = flat (l.set i a) := by
  rw [Nat.zero_add]; exact flat_setN l i a hi
section
variable {f : FuncId} [CalT Tryz.prog f] {ls : Pt → Pt → Bool} (o : STO ls) (hf : LsT f ls)
include o hf
theorem byO_ctr (A : Option Addr) (n c : Nat) (l : List Pt) (L : List HP) (hl : Rd L A n l) (hn : n ≤ 1000000) :
    Ctr Tryz.prog 66 #[.slice A n c, .func (.func f) #[] #[]] L fun v L' => Made 56 (srtO ls l) L v L' := by
  have h1 : l.length = n := hl.len (by decide)
  refine Ctr_of (fn := Tryz.f66) (n := 51) Tryz.func66 rfl rfl rfl ?_
  intro g F
  (repeat first | refine G_seq ?_ | refine G_skip ?_ | refine G_endblk ?_ | refine G_block ?_ | refine G_exit rfl ?_)
  refine G_region ?_
  refine GO_q rfl rfl (ev_assign rfl) ?_
  refine GO_nil ?_
  (repeat first | refine G_seq ?_ | refine G_skip ?_ | refine G_endblk ?_ | refine G_block ?_ | refine G_exit rfl ?_)
  refine G_region ?_
  refine GO_q rfl rfl (ev_move rfl) ?_
  refine GO_eff rfl rfl (eff_call rfl (Clone_ctr A n c l _ (by repeat' first | exact Rc.blk rfl | assumption | apply Rd.skip | apply Rd.app) hn)) ?_; rintro _ _ ⟨B, e, rfl, hB, rfl⟩
  refine GO_q rfl rfl (ev_assign rfl) ?_
  refine GO_nil ?_
  (repeat first | refine G_seq ?_ | refine G_skip ?_ | refine G_endblk ?_ | refine G_block ?_ | refine G_exit rfl ?_)
  refine G_region ?_
  refine GO_q rfl rfl (ev_move rfl) ?_
  refine GO_q rfl rfl (ev_len rfl) ?_
  refine GO_q rfl rfl (ev_move rfl) ?_
  refine GO_nil ?_
  (repeat first | refine G_seq ?_ | refine G_skip ?_ | refine G_endblk ?_ | refine G_block ?_ | refine G_exit rfl ?_)
  refine G_loop (ι := Nat × List Pt) (fun z => [(1, .func (.func f) #[] #[]), (5, .slice B n e), (11, .int .i64 (n : Nat)), (12, .int .i64 (z.1 : Nat))]) (fun z => own 56 3 B n e (flat z.2) :: F :: L) (fun z => z.1 ≤ n ∧ z.2.Perm l ∧ SrtO ls (z.2.take z.1)) (fun z => n - z.1) (0, l) ⟨Nat.zero_le _, .refl _, by simp [SrtO]⟩ ⟨rfl, by rw [← h1]; rfl, by rw [← h1]; rfl, rfl, trivial⟩ (by rw [← h1]; exact (by (repeat first | exact en_refl | (apply en_blk; focus ((repeat' first | exact Pick.here | apply Pick.skip | apply Pick.app); done); focus rfl) | (apply en_own; focus ((repeat' first | exact Pick.here | apply Pick.skip | apply Pick.app); done); focus rfl) | (apply en_pick; focus ((repeat' first | exact Pick.here | apply Pick.skip | apply Pick.app); done)) | apply en_drop | apply en_app) <;> fail)) ?_
  rintro ⟨i, m⟩ ⟨f1, f2, f3⟩
  simp only at f1 f2 f3
  dsimp only
  have hm : m.length = n := by rw [f2.length_eq, h1]
  (repeat first | refine G_seq ?_ | refine G_skip ?_ | refine G_endblk ?_ | refine G_block ?_ | refine G_exit rfl ?_)
  refine G_region ?_
  (first | refine GO_q rfl rfl (ev_lssN rfl rfl) ?_ | refine GO_q rfl rfl (ev_lss rfl rfl) ?_)
  refine GO_nil ?_
  (repeat first | refine G_seq ?_ | refine G_skip ?_ | refine G_endblk ?_ | refine G_block ?_ | refine G_exit rfl ?_)
  refine G_cond rfl (fun c1 => ?_) (fun c1 => ?_)
  · (repeat first | refine G_seq ?_ | refine G_skip ?_ | refine G_endblk ?_ | refine G_block ?_ | refine G_exit rfl ?_)
    refine G_region ?_
    refine GO_q rfl rfl (ev_move rfl) ?_
    refine GO_q rfl rfl (ev_assign rfl) ?_
    refine GO_nil ?_
    (repeat first | refine G_seq ?_ | refine G_skip ?_ | refine G_endblk ?_ | refine G_block ?_ | refine G_exit rfl ?_)
    refine G_region ?_
    refine GO_q rfl rfl (ev_move rfl) ?_
    refine GO_q rfl rfl (ev_assign rfl) ?_
    refine GO_nil ?_
    have hxi : m[i]? = some m[i] := List.getElem?_eq_getElem (by omega)
    have hsp : m = m.take i ++ m[i] :: m.drop (i + 1) := by
      conv => lhs; rw [← List.take_append_drop i m, List.drop_eq_getElem_cons (by omega)]
    have hPl : (m.take i).length = i := by rw [List.length_take]; omega
    obtain ⟨b, rfl⟩ := hB (by omega)
    generalize m[i] = x at *
    generalize m.take i = P at *
    generalize m.drop (i + 1) = D at *
    (repeat first | refine G_seq ?_ | refine G_skip ?_ | refine G_endblk ?_ | refine G_block ?_ | refine G_exit rfl ?_)
    refine G_loop (ι := Nat) (fun k => [(1, .func (.func f) #[] #[]), (5, .slice (some ⟨b, 0, none⟩) n e), (11, .int .i64 (n : Nat)), (12, .int .i64 (i : Nat)), (7, .int .i64 (k : Nat))]) (fun k => own 56 3 (some ⟨b, 0, none⟩) n e (flat (P.take k ++ x :: (P.drop k ++ D))) :: F :: L) (fun k => k ≤ i ∧ ∀ y ∈ P.drop k, ls x y = true) (fun k => k) i ⟨Nat.le_refl _, by rw [List.drop_of_length_le (by omega)]; simp⟩ ⟨rfl, rfl, rfl, rfl, rfl, trivial⟩ (by rw [List.take_of_length_le (by omega), List.drop_of_length_le (by omega), List.nil_append, ← hsp]; exact fun _ s => s) ?_
    rintro k ⟨q1, q2⟩
    by_cases c2 : 0 < k
    · have hg : P[k - 1]? = some P[k - 1] := List.getElem?_eq_getElem (by omega)
      have e1 : P.take k = P.take (k - 1) ++ [P[k - 1]] := by
        have := List.take_succ_eq_append_getElem (l := P) (i := k - 1) (by omega)
        rwa [show k - 1 + 1 = k by omega] at this
      have e2 : P.drop (k - 1) = P[k - 1] :: P.drop k := by
        have := List.drop_eq_getElem_cons (l := P) (i := k - 1) (by omega)
        rwa [show k - 1 + 1 = k by omega] at this
      have hAl : (P.take (k - 1)).length = k - 1 := by rw [List.length_take]; omega
      have hlen : (P.take k ++ x :: (P.drop k ++ D)).length = n := by
        rw [← hm, hsp]; simp; omega
      generalize P[k - 1] = p at *
      obtain ⟨s1, s2, s3⟩ := by_swapP (A := P.take (k - 1)) (R := P.drop k ++ D) (x := x) (p := p) (k := k) (by omega)
      have e3 : P.take k ++ x :: (P.drop k ++ D) = P.take (k - 1) ++ p :: x :: (P.drop k ++ D) := by rw [e1]; simp
      have e4 : P.take (k - 1) ++ x :: (P.drop (k - 1) ++ D) = P.take (k - 1) ++ x :: p :: (P.drop k ++ D) := by rw [e2]; simp
      rw [← e3] at s1 s2 s3
      cases c3 : ls x p with
      | true =>
        (repeat first | refine G_seq ?_ | refine G_skip ?_ | refine G_endblk ?_ | refine G_block ?_ | refine G_exit rfl ?_)
        refine G_draw (.q 0 (.q 1 (.q 2 (.q 3 (.q 4 (.q 5 (.q 6 (.q 7 (.q 8 (.q 9 (.q 10 (.q 11 (.q 12 (.e 13 (.q 14 .nil))))))))))))))) (by kernel_rfl) (by kernel_rfl) ?_
        refine RS_m retB_noPanic rfl rfl rfl rfl (ev_move rfl) ?_
        refine RS_m retB_noPanic rfl rfl rfl rfl (ev_gtr rfl rfl) ?_
        refine RS_m retB_noPanic rfl rfl rfl rfl (ev_move rfl) ?_
        refine RS_m_yes retB_noPanic rfl rfl rfl rfl ⟨_, rfl, (decide_eq_true (by omega))⟩ rfl (ev_move rfl) ?_
        refine RS_m_yes retB_noPanic rfl rfl rfl rfl ⟨_, rfl, (decide_eq_true (by omega))⟩ rfl (ev_move rfl) ?_
        refine RS_m_yes retB_noPanic rfl rfl rfl rfl ⟨_, rfl, (decide_eq_true (by omega))⟩ rfl (ev_move rfl) ?_
        (first | refine RS_m_yes retB_noPanic rfl rfl rfl rfl ⟨_, rfl, (decide_eq_true (by omega))⟩ rfl (ev_indexAddrN rfl rfl (by first | omega | (simp; done) | (simp; omega))) ?_ | refine RS_m_yes retB_noPanic rfl rfl rfl rfl ⟨_, rfl, (decide_eq_true (by omega))⟩ rfl (ev_indexAddr rfl rfl (by first | omega | (simp; done) | (simp; omega)) (by first | omega | (simp; done) | (simp; omega))) ?_)
        refine RS_q_yes retB_noPanic rfl rfl rfl rfl ⟨_, rfl, (decide_eq_true (by omega))⟩ rfl (ev_loadN rfl (by repeat' first | exact ld_ownP hlen s2 _ | apply LdN.skip)) ?_
        refine RS_m_yes retB_noPanic rfl rfl rfl rfl ⟨_, rfl, (decide_eq_true (by omega))⟩ rfl (ev_move rfl) ?_
        refine RS_m_yes retB_noPanic rfl rfl rfl rfl ⟨_, rfl, (decide_eq_true (by omega))⟩ rfl (ev_move rfl) ?_
        (first | refine RS_m_yes retB_noPanic rfl rfl rfl rfl ⟨_, rfl, (decide_eq_true (by omega))⟩ rfl (ev_subN (q := 1) rfl rfl (by first | omega | (simp; done) | (simp; omega))) ?_ | refine RS_m_yes retB_noPanic rfl rfl rfl rfl ⟨_, rfl, (decide_eq_true (by omega))⟩ rfl (ev_sub rfl rfl (by first | omega | (simp; done) | (simp; omega))) ?_)
        (first | refine RS_m_yes retB_noPanic rfl rfl rfl rfl ⟨_, rfl, (decide_eq_true (by omega))⟩ rfl (ev_indexAddrN rfl rfl (by first | omega | (simp; done) | (simp; omega))) ?_ | refine RS_m_yes retB_noPanic rfl rfl rfl rfl ⟨_, rfl, (decide_eq_true (by omega))⟩ rfl (ev_indexAddr rfl rfl (by first | omega | (simp; done) | (simp; omega)) (by first | omega | (simp; done) | (simp; omega))) ?_)
        refine RS_q_yes retB_noPanic rfl rfl rfl rfl ⟨_, rfl, (decide_eq_true (by omega))⟩ rfl (ev_loadN rfl (by repeat' first | exact ld_ownP hlen s3 _ | apply LdN.skip)) ?_
        refine RS_e (RE_eff_yes rfl rfl rfl ⟨_, rfl, (decide_eq_true (by omega))⟩ rfl (eff_callv rfl rfl (hf.ctr x p _)) ?_); rintro _ _ ⟨rfl, rfl⟩; refine ⟨_, fun _ s => s, (by first | ((repeat first | exact fun _ s => s | apply en_keep | apply en_drop | apply en_app) <;> fail) | ((repeat first | exact en_refl | (apply en_blk; focus ((repeat' first | exact Pick.here | apply Pick.skip | apply Pick.app); done); focus rfl) | (apply en_own; focus ((repeat' first | exact Pick.here | apply Pick.skip | apply Pick.app); done); focus rfl) | (apply en_pick; focus ((repeat' first | exact Pick.here | apply Pick.skip | apply Pick.app); done)) | apply en_drop | apply en_app) <;> fail)), ?_⟩
        refine RS_m retB_noPanic rfl rfl rfl rfl (ev_pick_t rfl (decide_eq_true (by omega)) rfl) ?_
        refine RS_nil ?_
        (repeat first | refine G_seq ?_ | refine G_skip ?_ | refine G_endblk ?_ | refine G_block ?_ | refine G_exit rfl ?_)
        refine G_cond_t rfl c3 ?_
        (repeat first | refine G_seq ?_ | refine G_skip ?_ | refine G_endblk ?_ | refine G_block ?_ | refine G_exit rfl ?_)
        refine G_draw (.q 0 (.q 1 (.q 2 (.q 3 (.q 4 (.q 5 (.q 6 (.q 7 (.q 8 (.q 9 (.q 10 (.q 11 (.q 12 (.q 13 (.q 14 (.e 15 (.q 16 (.e 17 .nil)))))))))))))))))) (by kernel_rfl) (by kernel_rfl) ?_
        refine RS_m retB_noPanic rfl rfl rfl rfl (ev_move rfl) ?_
        refine RS_m retB_noPanic rfl rfl rfl rfl (ev_move rfl) ?_
        refine RS_m retB_noPanic rfl rfl rfl rfl (ev_move rfl) ?_
        refine RS_m retB_noPanic rfl rfl rfl rfl (ev_move rfl) ?_
        (first | refine RS_m retB_noPanic rfl rfl rfl rfl (ev_subN (q := 1) rfl rfl (by first | omega | (simp; done) | (simp; omega))) ?_ | refine RS_m retB_noPanic rfl rfl rfl rfl (ev_sub rfl rfl (by first | omega | (simp; done) | (simp; omega))) ?_)
        refine RS_m retB_noPanic rfl rfl rfl rfl (ev_move rfl) ?_
        refine RS_m retB_noPanic rfl rfl rfl rfl (ev_move rfl) ?_
        (first | refine RS_m retB_noPanic rfl rfl rfl rfl (ev_subN (q := 1) rfl rfl (by first | omega | (simp; done) | (simp; omega))) ?_ | refine RS_m retB_noPanic rfl rfl rfl rfl (ev_sub rfl rfl (by first | omega | (simp; done) | (simp; omega))) ?_)
        (first | refine RS_m retB_noPanic rfl rfl rfl rfl (ev_indexAddrN rfl rfl (by first | omega | (simp; done) | (simp; omega))) ?_ | refine RS_m retB_noPanic rfl rfl rfl rfl (ev_indexAddr rfl rfl (by first | omega | (simp; done) | (simp; omega)) (by first | omega | (simp; done) | (simp; omega))) ?_)
        refine RS_q retB_noPanic rfl rfl rfl rfl (ev_loadN rfl (by repeat' first | exact ld_ownP hlen s3 _ | apply LdN.skip)) ?_
        refine RS_m retB_noPanic rfl rfl rfl rfl (ev_move rfl) ?_
        refine RS_m retB_noPanic rfl rfl rfl rfl (ev_move rfl) ?_
        (first | refine RS_m retB_noPanic rfl rfl rfl rfl (ev_indexAddrN rfl rfl (by first | omega | (simp; done) | (simp; omega))) ?_ | refine RS_m retB_noPanic rfl rfl rfl rfl (ev_indexAddr rfl rfl (by first | omega | (simp; done) | (simp; omega)) (by first | omega | (simp; done) | (simp; omega))) ?_)
        refine RS_q retB_noPanic rfl rfl rfl rfl (ev_loadN rfl (by repeat' first | exact ld_ownP hlen s2 _ | apply LdN.skip)) ?_
        (first | refine RS_m retB_noPanic rfl rfl rfl rfl (ev_indexAddrN rfl rfl (by first | omega | (simp; done) | (simp; omega))) ?_ | refine RS_m retB_noPanic rfl rfl rfl rfl (ev_indexAddr rfl rfl (by first | omega | (simp; done) | (simp; omega)) (by first | omega | (simp; done) | (simp; omega))) ?_)
        refine RS_e (RE_cmp (by kernel_rfl) rfl rfl rfl ((eff_storeNO (vs := [.int .i64 p.id, .int .i64 p.x, .int .i64 p.y]) rfl rfl rfl rfl (by repeat' first | exact Pick.here | apply Pick.skip | apply Pick.app) (by simp only [List.length_cons, List.length_nil]; omega))) ?_); rintro _ _ ⟨rfl, rfl⟩
        (first | refine RS_m retB_noPanic rfl rfl rfl rfl (ev_indexAddrN rfl rfl (by first | omega | (simp; done) | (simp; omega))) ?_ | refine RS_m retB_noPanic rfl rfl rfl rfl (ev_indexAddr rfl rfl (by first | omega | (simp; done) | (simp; omega)) (by first | omega | (simp; done) | (simp; omega))) ?_)
        refine RS_e (RE_last (by kernel_rfl) rfl rfl rfl ((eff_storeNO (vs := [.int .i64 x.id, .int .i64 x.x, .int .i64 x.y]) rfl rfl rfl rfl (by repeat' first | exact Pick.here | apply Pick.skip | apply Pick.app) (by simp only [List.length_cons, List.length_nil]; omega))) ?_); rintro _ _ ⟨rfl, rfl⟩
        rw [setN_pt _ _ _ (by omega), setN_pt _ _ _ (by rw [List.length_set]; omega), s1, ← e4]
        (repeat first | refine G_seq ?_ | refine G_skip ?_ | refine G_endblk ?_ | refine G_block ?_ | refine G_exit rfl ?_)
        refine G_region ?_
        refine GO_q rfl rfl (ev_move rfl) ?_
        (first | refine GO_q rfl rfl (ev_subN (q := 1) rfl rfl (by first | omega | (simp; done) | (simp; omega))) ?_ | refine GO_q rfl rfl (ev_sub rfl rfl (by first | omega | (simp; done) | (simp; omega))) ?_)
        refine GO_q rfl rfl (ev_assign rfl) ?_
        refine GO_nil ?_
        (repeat first | refine G_seq ?_ | refine G_skip ?_ | refine G_endblk ?_ | refine G_block ?_ | refine G_exit rfl ?_)
        exact G_round (k - 1) ⟨by omega, by rw [e2]; exact fun y hy => (List.mem_cons.1 hy).elim (fun h => h ▸ c3) (q2 y)⟩ (by omega) ⟨rfl, rfl, rfl, rfl, rfl, trivial⟩ (fun _ s => s)
      | false =>
        (repeat first | refine G_seq ?_ | refine G_skip ?_ | refine G_endblk ?_ | refine G_block ?_ | refine G_exit rfl ?_)
        refine G_draw (.q 0 (.q 1 (.q 2 (.q 3 (.q 4 (.q 5 (.q 6 (.q 7 (.q 8 (.q 9 (.q 10 (.q 11 (.q 12 (.e 13 (.q 14 .nil))))))))))))))) (by kernel_rfl) (by kernel_rfl) ?_
        refine RS_m retB_noPanic rfl rfl rfl rfl (ev_move rfl) ?_
        refine RS_m retB_noPanic rfl rfl rfl rfl (ev_gtr rfl rfl) ?_
        refine RS_m retB_noPanic rfl rfl rfl rfl (ev_move rfl) ?_
        refine RS_m_yes retB_noPanic rfl rfl rfl rfl ⟨_, rfl, (decide_eq_true (by omega))⟩ rfl (ev_move rfl) ?_
        refine RS_m_yes retB_noPanic rfl rfl rfl rfl ⟨_, rfl, (decide_eq_true (by omega))⟩ rfl (ev_move rfl) ?_
        refine RS_m_yes retB_noPanic rfl rfl rfl rfl ⟨_, rfl, (decide_eq_true (by omega))⟩ rfl (ev_move rfl) ?_
        (first | refine RS_m_yes retB_noPanic rfl rfl rfl rfl ⟨_, rfl, (decide_eq_true (by omega))⟩ rfl (ev_indexAddrN rfl rfl (by first | omega | (simp; done) | (simp; omega))) ?_ | refine RS_m_yes retB_noPanic rfl rfl rfl rfl ⟨_, rfl, (decide_eq_true (by omega))⟩ rfl (ev_indexAddr rfl rfl (by first | omega | (simp; done) | (simp; omega)) (by first | omega | (simp; done) | (simp; omega))) ?_)
        refine RS_q_yes retB_noPanic rfl rfl rfl rfl ⟨_, rfl, (decide_eq_true (by omega))⟩ rfl (ev_loadN rfl (by repeat' first | exact ld_ownP hlen s2 _ | apply LdN.skip)) ?_
        refine RS_m_yes retB_noPanic rfl rfl rfl rfl ⟨_, rfl, (decide_eq_true (by omega))⟩ rfl (ev_move rfl) ?_
        refine RS_m_yes retB_noPanic rfl rfl rfl rfl ⟨_, rfl, (decide_eq_true (by omega))⟩ rfl (ev_move rfl) ?_
        (first | refine RS_m_yes retB_noPanic rfl rfl rfl rfl ⟨_, rfl, (decide_eq_true (by omega))⟩ rfl (ev_subN (q := 1) rfl rfl (by first | omega | (simp; done) | (simp; omega))) ?_ | refine RS_m_yes retB_noPanic rfl rfl rfl rfl ⟨_, rfl, (decide_eq_true (by omega))⟩ rfl (ev_sub rfl rfl (by first | omega | (simp; done) | (simp; omega))) ?_)
        (first | refine RS_m_yes retB_noPanic rfl rfl rfl rfl ⟨_, rfl, (decide_eq_true (by omega))⟩ rfl (ev_indexAddrN rfl rfl (by first | omega | (simp; done) | (simp; omega))) ?_ | refine RS_m_yes retB_noPanic rfl rfl rfl rfl ⟨_, rfl, (decide_eq_true (by omega))⟩ rfl (ev_indexAddr rfl rfl (by first | omega | (simp; done) | (simp; omega)) (by first | omega | (simp; done) | (simp; omega))) ?_)
        refine RS_q_yes retB_noPanic rfl rfl rfl rfl ⟨_, rfl, (decide_eq_true (by omega))⟩ rfl (ev_loadN rfl (by repeat' first | exact ld_ownP hlen s3 _ | apply LdN.skip)) ?_
        refine RS_e (RE_eff_yes rfl rfl rfl ⟨_, rfl, (decide_eq_true (by omega))⟩ rfl (eff_callv rfl rfl (hf.ctr x p _)) ?_); rintro _ _ ⟨rfl, rfl⟩; refine ⟨_, fun _ s => s, (by first | ((repeat first | exact fun _ s => s | apply en_keep | apply en_drop | apply en_app) <;> fail) | ((repeat first | exact en_refl | (apply en_blk; focus ((repeat' first | exact Pick.here | apply Pick.skip | apply Pick.app); done); focus rfl) | (apply en_own; focus ((repeat' first | exact Pick.here | apply Pick.skip | apply Pick.app); done); focus rfl) | (apply en_pick; focus ((repeat' first | exact Pick.here | apply Pick.skip | apply Pick.app); done)) | apply en_drop | apply en_app) <;> fail)), ?_⟩
        refine RS_m retB_noPanic rfl rfl rfl rfl (ev_pick_t rfl (decide_eq_true (by omega)) rfl) ?_
        refine RS_nil ?_
        (repeat first | refine G_seq ?_ | refine G_skip ?_ | refine G_endblk ?_ | refine G_block ?_ | refine G_exit rfl ?_)
        refine G_cond_f rfl c3 ?_
        (repeat first | refine G_seq ?_ | refine G_skip ?_ | refine G_endblk ?_ | refine G_block ?_ | refine G_exit rfl ?_)
        refine G_region ?_
        (first | refine GO_q rfl rfl (ev_addN (q := 1) rfl rfl (by first | omega | (simp; done) | (simp; omega))) ?_ | refine GO_q rfl rfl (ev_add rfl rfl (by first | omega | (simp; done) | (simp; omega))) ?_)
        refine GO_q rfl rfl (ev_move rfl) ?_
        refine GO_nil ?_
        (repeat first | refine G_seq ?_ | refine G_skip ?_ | refine G_endblk ?_ | refine G_block ?_ | refine G_exit rfl ?_)
        refine G_round (i + 1, P.take k ++ x :: (P.drop k ++ D)) ⟨by simp only; omega, ?_, ?_⟩ (by simp only; omega) ⟨rfl, rfl, rfl, rfl, trivial⟩ (fun _ s => s)
        · refine List.Perm.trans ?_ f2
          rw [hsp]
          simp only
          refine (List.perm_middle).trans (List.Perm.trans ?_ (List.perm_middle).symm)
          rw [← List.append_assoc, List.take_append_drop]
        · simp only
          have e5 : (P.take k ++ x :: (P.drop k ++ D)).take (i + 1) = P.take k ++ x :: P.drop k := by
            have : P.take k ++ x :: (P.drop k ++ D) = (P.take k ++ x :: P.drop k) ++ D := by simp
            rw [this, List.take_append_of_le_length (by simp; omega), List.take_of_length_le (by simp; omega)]
          rw [e5]
          unfold SrtO at f3 ⊢
          rw [← List.take_append_drop k P, List.pairwise_append] at f3
          rw [List.pairwise_append]
          refine ⟨f3.1, List.pairwise_cons.2 ⟨fun y hy => o.asym (q2 y hy), f3.2.1⟩, ?_⟩
          have hpx : ∀ a ∈ P.take k, ls x a = false := by
            rw [e1]
            intro a ha
            rcases List.mem_append.1 ha with ha | ha
            · have h9 := f3.1
              rw [e1, List.pairwise_append] at h9
              exact o.le_tr (h9.2.2 a ha p (by simp)) c3
            · simp at ha; subst ha; exact c3
          intro a ha y hy
          rcases List.mem_cons.1 hy with rfl | hy
          · exact hpx a ha
          · exact f3.2.2 a ha y hy
    · have e0 : k = 0 := by omega
      subst e0
      (repeat first | refine G_seq ?_ | refine G_skip ?_ | refine G_endblk ?_ | refine G_block ?_ | refine G_exit rfl ?_)
      refine G_draw (.q 0 (.q 1 (.q 2 (.q 3 (.q 4 (.q 5 (.q 6 (.q 7 (.q 8 (.q 9 (.q 10 (.q 11 (.q 12 (.e 13 (.q 14 .nil))))))))))))))) (by kernel_rfl) (by kernel_rfl) ?_
      refine RS_m retB_noPanic rfl rfl rfl rfl (ev_move rfl) ?_
      refine RS_m retB_noPanic rfl rfl rfl rfl (ev_gtr rfl rfl) ?_
      refine RS_m retB_noPanic rfl rfl rfl rfl (ev_move rfl) ?_
      refine RS_q_no retB_noPanic rfl rfl rfl ⟨_, rfl, (decide_eq_false (by omega))⟩ rfl ?_
      refine RS_q_no retB_noPanic rfl rfl rfl ⟨_, rfl, (decide_eq_false (by omega))⟩ rfl ?_
      refine RS_q_no retB_noPanic rfl rfl rfl ⟨_, rfl, (decide_eq_false (by omega))⟩ rfl ?_
      refine RS_q_no retB_noPanic rfl rfl rfl ⟨_, rfl, (decide_eq_false (by omega))⟩ rfl ?_
      refine RS_q_no retB_noPanic rfl rfl rfl ⟨_, rfl, (decide_eq_false (by omega))⟩ rfl ?_
      refine RS_q_no retB_noPanic rfl rfl rfl ⟨_, rfl, (decide_eq_false (by omega))⟩ rfl ?_
      refine RS_q_no retB_noPanic rfl rfl rfl ⟨_, rfl, (decide_eq_false (by omega))⟩ rfl ?_
      refine RS_q_no retB_noPanic rfl rfl rfl ⟨_, rfl, (decide_eq_false (by omega))⟩ rfl ?_
      refine RS_q_no retB_noPanic rfl rfl rfl ⟨_, rfl, (decide_eq_false (by omega))⟩ rfl ?_
      refine RS_q_no retB_noPanic rfl rfl rfl ⟨_, rfl, (decide_eq_false (by omega))⟩ rfl ?_
      refine RS_e (RE_no rfl rfl rfl ⟨_, rfl, (decide_eq_false (by omega))⟩ rfl ?_)
      refine RS_m retB_noPanic rfl rfl rfl rfl (ev_pick_f rfl (decide_eq_false (by omega)) rfl) ?_
      refine RS_nil ?_
      (repeat first | refine G_seq ?_ | refine G_skip ?_ | refine G_endblk ?_ | refine G_block ?_ | refine G_exit rfl ?_)
      refine G_cond_f rfl rfl ?_
      (repeat first | refine G_seq ?_ | refine G_skip ?_ | refine G_endblk ?_ | refine G_block ?_ | refine G_exit rfl ?_)
      refine G_region ?_
      (first | refine GO_q rfl rfl (ev_addN (q := 1) rfl rfl (by first | omega | (simp; done) | (simp; omega))) ?_ | refine GO_q rfl rfl (ev_add rfl rfl (by first | omega | (simp; done) | (simp; omega))) ?_)
      refine GO_q rfl rfl (ev_move rfl) ?_
      refine GO_nil ?_
      (repeat first | refine G_seq ?_ | refine G_skip ?_ | refine G_endblk ?_ | refine G_block ?_ | refine G_exit rfl ?_)
      refine G_round (i + 1, x :: (P ++ D)) ⟨by simp only; omega, ?_, ?_⟩ (by simp only; omega) ⟨rfl, rfl, rfl, rfl, trivial⟩ (fun _ s => s)
      · refine List.Perm.trans ?_ f2
        rw [hsp]
        exact (List.perm_middle).symm
      · simp only
        unfold SrtO at f3 ⊢
        rw [List.take_succ_cons, List.take_append_of_le_length (by omega), List.take_of_length_le (by omega)]
        exact List.pairwise_cons.2 ⟨fun y hy => o.asym (q2 y (by simpa using hy)), f3⟩
  · have e9 : i = n := by omega
    subst e9
    have : m = srtO ls l := srtO_eq o (by rwa [List.take_of_length_le (by omega)] at f3) f2
    subst this
    (repeat first | refine G_seq ?_ | refine G_skip ?_ | refine G_endblk ?_ | refine G_block ?_ | refine G_exit rfl ?_)
    refine G_region ?_
    refine GO_q rfl rfl (ev_move rfl) ?_
    refine GO_q rfl rfl (ev_assign rfl) ?_
    refine GO_nil ?_
    (repeat first | refine G_seq ?_ | refine G_skip ?_ | refine G_endblk ?_ | refine G_block ?_ | refine G_exit rfl ?_)
    refine G_ret (L' := own 56 3 B (srtO ls l).length e (flat (srtO ls l)) :: L) rfl (.tmp rfl .nil) ?_ ⟨B, e, by rw [hm]; rfl, by rw [hm]; exact fun h => hB (by omega), rfl⟩
    rw [hm]
    exact (by (repeat first | exact en_refl | (apply en_blk; focus ((repeat' first | exact Pick.here | apply Pick.skip | apply Pick.app); done); focus rfl) | (apply en_own; focus ((repeat' first | exact Pick.here | apply Pick.skip | apply Pick.app); done); focus rfl) | (apply en_pick; focus ((repeat' first | exact Pick.here | apply Pick.skip | apply Pick.app); done)) | apply en_drop | apply en_app) <;> fail)
theorem mergeO_ctr (A B : Option Addr) (n m c d : Nat) (l q : List Pt) (L : List HP) (hl : Rd L A n l) (hq : Rd L B m q) (hn : n ≤ 1000000) (hm : m ≤ 1000000) (hc : n ≤ c) (hd : m ≤ d) (sl : SrtO ls l) (sq : SrtO ls q) :
    Ctr Tryz.prog 67 #[.slice A n c, .slice B m d, .func (.func f) #[] #[]] L fun v L' => Made 56 (srtO ls (l ++ q)) L v L' := by
  have h1 : l.length = n := hl.len (by decide)
  have h2 : q.length = m := hq.len (by decide)
  refine Ctr_of (fn := Tryz.f67) (n := 51) Tryz.func67 rfl rfl rfl ?_
  intro g F
  (repeat first | refine G_seq ?_ | refine G_skip ?_ | refine G_endblk ?_ | refine G_block ?_ | refine G_exit rfl ?_)
  refine G_region ?_
  refine GO_q rfl rfl (ev_assign rfl) ?_
  refine GO_nil ?_
  (repeat first | refine G_seq ?_ | refine G_skip ?_ | refine G_endblk ?_ | refine G_block ?_ | refine G_exit rfl ?_)
  refine G_region ?_
  refine GO_q rfl rfl (ev_move rfl) ?_
  refine GO_q rfl rfl (ev_len rfl) ?_
  refine GO_q rfl rfl (ev_move rfl) ?_
  refine GO_q rfl rfl (ev_len rfl) ?_
  (first | refine GO_q rfl rfl (ev_addN rfl rfl (by first | omega | (simp; done) | (simp; omega))) ?_ | refine GO_q rfl rfl (ev_add rfl rfl (by first | omega | (simp; done) | (simp; omega))) ?_)
  refine GO_eff rfl rfl (eff_make0 rfl rfl (by omega) (by omega)) ?_; rintro _ _ ⟨b13, rfl, rfl⟩
  refine GO_q rfl rfl (ev_assign rfl) ?_
  refine GO_nil ?_
  (repeat first | refine G_seq ?_ | refine G_skip ?_ | refine G_endblk ?_ | refine G_block ?_ | refine G_exit rfl ?_)
  refine G_loop (ι := (Option Addr × Nat × List Pt) × (Option Addr × Nat × List Pt) × (Option Addr × Nat × List Pt)) (fun z => [(2, .func (.func f) #[] #[]), (0, .slice z.1.1 z.1.2.2.length z.1.2.1), (1, .slice z.2.1.1 z.2.1.2.2.length z.2.1.2.1), (7, .slice z.2.2.1 z.2.2.2.2.length z.2.2.2.1)]) (fun z => own 56 3 z.2.2.1 z.2.2.2.2.length z.2.2.2.1 (flat z.2.2.2.2) :: F :: L)
    (fun z => (Rd L z.1.1 z.1.2.2.length z.1.2.2 ∧ z.1.2.2.length ≤ z.1.2.1 ∧ SrtO ls z.1.2.2) ∧ (Rd L z.2.1.1 z.2.1.2.2.length z.2.1.2.2 ∧ z.2.1.2.2.length ≤ z.2.1.2.1 ∧ SrtO ls z.2.1.2.2) ∧ (z.2.2.2.2 ++ (z.1.2.2 ++ z.2.1.2.2)).Perm (l ++ q) ∧ SrtO ls z.2.2.2.2 ∧ (∀ w ∈ z.2.2.2.2, ∀ x ∈ z.1.2.2 ++ z.2.1.2.2, ls x w = false) ∧ (0 < z.2.2.2.2.length → ∃ b, z.2.2.1 = some ⟨b, 0, none⟩)) (fun z => z.1.2.2.length + z.2.1.2.2.length) ((A, c, l), (B, d, q), (some ⟨b13, 0, none⟩, n + m, [])) ⟨⟨by rw [h1]; exact hl, by simp only; omega, sl⟩, ⟨by rw [h2]; exact hq, by simp only; omega, sq⟩, .refl _, .nil, by simp, fun _ => ⟨b13, rfl⟩⟩ ⟨rfl, by rw [← h1]; rfl, by rw [← h2]; rfl, rfl, trivial⟩ (by (repeat first | exact en_refl | (apply en_blk; focus ((repeat' first | exact Pick.here | apply Pick.skip | apply Pick.app); done); focus rfl) | (apply en_own; focus ((repeat' first | exact Pick.here | apply Pick.skip | apply Pick.app); done); focus rfl) | (apply en_pick; focus ((repeat' first | exact Pick.here | apply Pick.skip | apply Pick.app); done)) | apply en_drop | apply en_app) <;> fail) ?_
  rintro ⟨⟨A1, c1, l1⟩, ⟨B1, d1, q1⟩, ⟨O, e, w⟩⟩ ⟨⟨f1, f2, f3⟩, ⟨k1, k2, k3⟩, hp, so, hle, hO⟩
  simp only at f1 f2 f3 k1 k2 k3 hp so hle hO
  dsimp only
  have hlen : w.length + (l1.length + q1.length) = n + m := by
    have := hp.length_eq
    simpa [h1, h2] using this
  refine G_pure (fun h s => own.facts (s)) ?_
  rintro ⟨w1, w2, w3, w4⟩
  unfold maxLen at w3
  by_cases hz : 0 < l1.length ∧ 0 < q1.length
  · obtain ⟨ab, ao, rfl, ax⟩ := f1.at_ hz.1
    obtain ⟨bb, bo, rfl, bx⟩ := k1.at_ hz.2
    obtain ⟨x, l2, rfl⟩ : ∃ x l2, l1 = x :: l2 := by cases l1 with
      | nil => simp at hz
      | cons x l2 => exact ⟨x, l2, rfl⟩
    obtain ⟨y, q2, rfl⟩ : ∃ y q2, q1 = y :: q2 := by cases q1 with
      | nil => simp at hz
      | cons y q2 => exact ⟨y, q2, rfl⟩
    have x1 : LdN L ab (ao + 0 * 3) 3 [.int .i64 x.id, .int .i64 x.x, .int .i64 x.y] := ax 0 x rfl
    have y1 : LdN L bb (bo + 0 * 3) 3 [.int .i64 y.id, .int .i64 y.x, .int .i64 y.y] := bx 0 y rfl
    unfold SrtO at f3 k3 so
    rw [List.pairwise_cons] at f3 k3
    simp only [List.length_cons] at *
    (repeat first | refine G_seq ?_ | refine G_skip ?_ | refine G_endblk ?_ | refine G_block ?_ | refine G_exit rfl ?_)
    refine G_region ?_
    refine GO_q rfl rfl (ev_move rfl) ?_
    refine GO_q rfl rfl (ev_len rfl) ?_
    refine GO_q rfl rfl (ev_gtr rfl rfl) ?_
    refine GO_q rfl rfl (ev_move rfl) ?_
    refine GO_yes rfl rfl rfl (decide_eq_true (by omega)) ?_
    refine GO_q rfl rfl (ev_move rfl) ?_
    refine GO_yes rfl rfl rfl (decide_eq_true (by omega)) ?_
    refine GO_q rfl rfl (ev_len rfl) ?_
    refine GO_yes rfl rfl rfl (decide_eq_true (by omega)) ?_
    refine GO_q rfl rfl (ev_gtr rfl rfl) ?_
    refine GO_q rfl rfl (ev_pick_t rfl (decide_eq_true (by omega)) rfl) ?_
    refine GO_nil ?_
    (repeat first | refine G_seq ?_ | refine G_skip ?_ | refine G_endblk ?_ | refine G_block ?_ | refine G_exit rfl ?_)
    refine G_cond_t rfl (decide_eq_true (by omega)) ?_
    (repeat first | refine G_seq ?_ | refine G_skip ?_ | refine G_endblk ?_ | refine G_block ?_ | refine G_exit rfl ?_)
    refine G_draw (.q 0 (.q 1 (.q 2 (.q 3 (.q 4 (.q 5 (.q 6 (.e 7 .nil)))))))) (by kernel_rfl) (by kernel_rfl) ?_
    refine RS_m retB_noPanic rfl rfl rfl rfl (ev_move rfl) ?_
    refine RS_m retB_noPanic rfl rfl rfl rfl (ev_move rfl) ?_
    (first | refine RS_m retB_noPanic rfl rfl rfl rfl (ev_indexAddrN rfl rfl (by first | omega | (simp; done) | (simp; omega))) ?_ | refine RS_m retB_noPanic rfl rfl rfl rfl (ev_indexAddr rfl rfl (by first | omega | (simp; done) | (simp; omega)) (by first | omega | (simp; done) | (simp; omega))) ?_)
    refine RS_q retB_noPanic rfl rfl rfl rfl (ev_loadN rfl (by repeat' first | exact LdN.blk rfl | assumption | apply LdN.skip | apply LdN.app)) ?_
    refine RS_m retB_noPanic rfl rfl rfl rfl (ev_move rfl) ?_
    (first | refine RS_m retB_noPanic rfl rfl rfl rfl (ev_indexAddrN rfl rfl (by first | omega | (simp; done) | (simp; omega))) ?_ | refine RS_m retB_noPanic rfl rfl rfl rfl (ev_indexAddr rfl rfl (by first | omega | (simp; done) | (simp; omega)) (by first | omega | (simp; done) | (simp; omega))) ?_)
    refine RS_q retB_noPanic rfl rfl rfl rfl (ev_loadN rfl (by repeat' first | exact LdN.blk rfl | assumption | apply LdN.skip | apply LdN.app)) ?_
    refine RS_e (RE_last (by kernel_rfl) rfl rfl rfl (eff_callv rfl rfl (hf.ctr y x _)) ?_); rintro _ _ ⟨rfl, rfl⟩
    cases hyx : ls y x with
    | true =>
      (repeat first | refine G_seq ?_ | refine G_skip ?_ | refine G_endblk ?_ | refine G_block ?_ | refine G_exit rfl ?_)
      refine G_cond_t rfl rfl ?_
      (repeat first | refine G_seq ?_ | refine G_skip ?_ | refine G_endblk ?_ | refine G_block ?_ | refine G_exit rfl ?_)
      refine G_drawE 0 (.q 0 (.q 1 (.q 2 (.q 3 (.q 6 (.q 7 (.e 4 (.e 5 (.q 8 (.q 9 .nil)))))))))) (by kernel_rfl) (by kernel_rfl) ?_
      refine RS_m retB_noPanic rfl rfl rfl rfl (ev_move rfl) ?_
      refine RS_m retB_noPanic rfl rfl rfl rfl (ev_move rfl) ?_
      (first | refine RS_m retB_noPanic rfl rfl rfl rfl (ev_indexAddrN rfl rfl (by first | omega | (simp; done) | (simp; omega))) ?_ | refine RS_m retB_noPanic rfl rfl rfl rfl (ev_indexAddr rfl rfl (by first | omega | (simp; done) | (simp; omega)) (by first | omega | (simp; done) | (simp; omega))) ?_)
      refine RS_q retB_noPanic rfl rfl rfl rfl (ev_loadN rfl (by repeat' first | exact LdN.blk rfl | assumption | apply LdN.skip | apply LdN.app)) ?_
      refine RS_m retB_noPanic rfl rfl rfl rfl (ev_move rfl) ?_
      refine RS_q retB_noPanic rfl rfl rfl rfl (ev_sliceL rfl rfl (by first | omega | (simp; done) | (simp; omega)) (by first | omega | (simp; done) | (simp; omega))) ?_
      refine RS_e (RE_eff rfl rfl rfl (eff_buildSlice1 (by rfl) rfl rfl) ?_); rintro _ _ ⟨b34, rfl, rfl⟩; refine ⟨_, (by first | ((repeat first | exact fun _ s => s | apply en_keep | apply en_drop | apply en_app) <;> fail) | ((repeat first | exact en_refl | (apply en_blk; focus ((repeat' first | exact Pick.here | apply Pick.skip | apply Pick.app); done); focus rfl) | (apply en_own; focus ((repeat' first | exact Pick.here | apply Pick.skip | apply Pick.app); done); focus rfl) | (apply en_pick; focus ((repeat' first | exact Pick.here | apply Pick.skip | apply Pick.app); done)) | apply en_drop | apply en_app) <;> fail)), fun _ s => s, ?_⟩
      refine RS_e (RE_eff rfl rfl rfl (eff_append rfl rfl (by repeat' first | exact Pick.here | apply Pick.skip) (by repeat' first | exact Rc.blk rfl | assumption | apply Rc.skip) (one_all rfl) (by rfl) (by decide) (by first | omega | (simp; done) | (simp; omega)) (by first | omega | (simp; done) | (simp; omega))) ?_); rintro _ _ ⟨A35, c35, rfl, hc35, hm35, hn35, rfl⟩; refine ⟨_, (by first | ((repeat first | exact fun _ s => s | apply en_keep | apply en_drop | apply en_app) <;> fail) | ((repeat first | exact en_refl | (apply en_blk; focus ((repeat' first | exact Pick.here | apply Pick.skip | apply Pick.app); done); focus rfl) | (apply en_own; focus ((repeat' first | exact Pick.here | apply Pick.skip | apply Pick.app); done); focus rfl) | (apply en_pick; focus ((repeat' first | exact Pick.here | apply Pick.skip | apply Pick.app); done)) | apply en_drop | apply en_app) <;> fail)), fun _ s => s, ?_⟩
      refine RS_m retB_noPanic rfl rfl rfl rfl (ev_assign rfl) ?_
      refine RS_m retB_noPanic rfl rfl rfl rfl (ev_assign rfl) ?_
      refine RS_nil ?_
      (repeat first | refine G_seq ?_ | refine G_skip ?_ | refine G_endblk ?_ | refine G_block ?_ | refine G_exit rfl ?_)
      exact G_round ((some ⟨ab, ao, none⟩, c1, x :: l2), (some ⟨bb, (if d1 = 1 then bo else bo + 1 * 3), none⟩, d1 - 1, q2), (A35, c35, w ++ [y])) ⟨⟨f1, f2, List.pairwise_cons.2 f3⟩, ⟨k1.drop (k := 1) (c := d1) (by omega) k2, by simp only; omega, k3.2⟩, by
          refine List.Perm.trans ?_ hp
          simp only [List.append_assoc]
          refine List.Perm.append_left w ?_
          exact (List.perm_middle (l₁ := x :: l2)).symm, by
          simp only
          unfold SrtO
          rw [List.pairwise_append]
          exact ⟨so, by simp, fun a ha b hb => by simp at hb; subst hb; exact hle a ha _ (by simp)⟩, by
          simp only
          intro a ha b hb
          rcases List.mem_append.1 ha with ha | ha
          · exact hle a ha b (by simp at hb ⊢; rcases hb with h | h | h <;> simp [h])
          · simp at ha; subst ha
            rcases List.mem_append.1 hb with hb | hb
            · rcases List.mem_cons.1 hb with rfl | hb
              · exact o.asym hyx
              · exact o.le_tr (o.asym hyx) (f3.1 b hb)
            · exact k3.1 b hb, fun _ => hn35 (by omega)⟩ (by simp only [List.length_cons]; omega) ⟨rfl, rfl, rfl, by rw [List.length_append]; rfl, trivial⟩ (by
          have e5 : flat (w ++ [y]) = flat w ++ [.int .i64 y.id, .int .i64 y.x, .int .i64 y.y] := (flat_snoc w y).symm
          simp only [List.length_append, List.length_singleton, e5]
          exact (by (repeat first | exact en_refl | (apply en_blk; focus ((repeat' first | exact Pick.here | apply Pick.skip | apply Pick.app); done); focus rfl) | (apply en_own; focus ((repeat' first | exact Pick.here | apply Pick.skip | apply Pick.app); done); focus rfl) | (apply en_pick; focus ((repeat' first | exact Pick.here | apply Pick.skip | apply Pick.app); done)) | apply en_drop | apply en_app) <;> fail))
    | false =>
      (repeat first | refine G_seq ?_ | refine G_skip ?_ | refine G_endblk ?_ | refine G_block ?_ | refine G_exit rfl ?_)
      refine G_cond_f rfl rfl ?_
      (repeat first | refine G_seq ?_ | refine G_skip ?_ | refine G_endblk ?_ | refine G_block ?_ | refine G_exit rfl ?_)
      refine G_drawE 0 (.q 0 (.q 1 (.q 2 (.q 3 (.q 6 (.q 7 (.e 4 (.e 5 (.q 8 (.q 9 .nil)))))))))) (by kernel_rfl) (by kernel_rfl) ?_
      refine RS_m retB_noPanic rfl rfl rfl rfl (ev_move rfl) ?_
      refine RS_m retB_noPanic rfl rfl rfl rfl (ev_move rfl) ?_
      (first | refine RS_m retB_noPanic rfl rfl rfl rfl (ev_indexAddrN rfl rfl (by first | omega | (simp; done) | (simp; omega))) ?_ | refine RS_m retB_noPanic rfl rfl rfl rfl (ev_indexAddr rfl rfl (by first | omega | (simp; done) | (simp; omega)) (by first | omega | (simp; done) | (simp; omega))) ?_)
      refine RS_q retB_noPanic rfl rfl rfl rfl (ev_loadN rfl (by repeat' first | exact LdN.blk rfl | assumption | apply LdN.skip | apply LdN.app)) ?_
      refine RS_m retB_noPanic rfl rfl rfl rfl (ev_move rfl) ?_
      refine RS_q retB_noPanic rfl rfl rfl rfl (ev_sliceL rfl rfl (by first | omega | (simp; done) | (simp; omega)) (by first | omega | (simp; done) | (simp; omega))) ?_
      refine RS_e (RE_eff rfl rfl rfl (eff_buildSlice1 (by rfl) rfl rfl) ?_); rintro _ _ ⟨b42, rfl, rfl⟩; refine ⟨_, (by first | ((repeat first | exact fun _ s => s | apply en_keep | apply en_drop | apply en_app) <;> fail) | ((repeat first | exact en_refl | (apply en_blk; focus ((repeat' first | exact Pick.here | apply Pick.skip | apply Pick.app); done); focus rfl) | (apply en_own; focus ((repeat' first | exact Pick.here | apply Pick.skip | apply Pick.app); done); focus rfl) | (apply en_pick; focus ((repeat' first | exact Pick.here | apply Pick.skip | apply Pick.app); done)) | apply en_drop | apply en_app) <;> fail)), fun _ s => s, ?_⟩
      refine RS_e (RE_eff rfl rfl rfl (eff_append rfl rfl (by repeat' first | exact Pick.here | apply Pick.skip) (by repeat' first | exact Rc.blk rfl | assumption | apply Rc.skip) (one_all rfl) (by rfl) (by decide) (by first | omega | (simp; done) | (simp; omega)) (by first | omega | (simp; done) | (simp; omega))) ?_); rintro _ _ ⟨A43, c43, rfl, hc43, hm43, hn43, rfl⟩; refine ⟨_, (by first | ((repeat first | exact fun _ s => s | apply en_keep | apply en_drop | apply en_app) <;> fail) | ((repeat first | exact en_refl | (apply en_blk; focus ((repeat' first | exact Pick.here | apply Pick.skip | apply Pick.app); done); focus rfl) | (apply en_own; focus ((repeat' first | exact Pick.here | apply Pick.skip | apply Pick.app); done); focus rfl) | (apply en_pick; focus ((repeat' first | exact Pick.here | apply Pick.skip | apply Pick.app); done)) | apply en_drop | apply en_app) <;> fail)), fun _ s => s, ?_⟩
      refine RS_m retB_noPanic rfl rfl rfl rfl (ev_assign rfl) ?_
      refine RS_m retB_noPanic rfl rfl rfl rfl (ev_assign rfl) ?_
      refine RS_nil ?_
      (repeat first | refine G_seq ?_ | refine G_skip ?_ | refine G_endblk ?_ | refine G_block ?_ | refine G_exit rfl ?_)
      exact G_round ((some ⟨ab, (if c1 = 1 then ao else ao + 1 * 3), none⟩, c1 - 1, l2), (some ⟨bb, bo, none⟩, d1, y :: q2), (A43, c43, w ++ [x])) ⟨⟨f1.drop (k := 1) (c := c1) (by omega) f2, by simp only; omega, f3.2⟩, ⟨k1, k2, List.pairwise_cons.2 k3⟩, by
          refine List.Perm.trans ?_ hp
          simp only [List.append_assoc]
          exact .refl _, by
          simp only
          unfold SrtO
          rw [List.pairwise_append]
          exact ⟨so, by simp, fun a ha b hb => by simp at hb; subst hb; exact hle a ha _ (by simp)⟩, by
          simp only
          intro a ha b hb
          rcases List.mem_append.1 ha with ha | ha
          · exact hle a ha b (by simp at hb ⊢; rcases hb with h | h | h <;> simp [h])
          · simp at ha; subst ha
            rcases List.mem_append.1 hb with hb | hb
            · exact f3.1 b hb
            · rcases List.mem_cons.1 hb with rfl | hb
              · exact hyx
              · exact o.le_tr hyx (k3.1 b hb), fun _ => hn43 (by omega)⟩ (by simp only [List.length_cons]; omega) ⟨rfl, rfl, rfl, by rw [List.length_append]; rfl, trivial⟩ (by
          have e5 : flat (w ++ [x]) = flat w ++ [.int .i64 x.id, .int .i64 x.x, .int .i64 x.y] := (flat_snoc w x).symm
          simp only [List.length_append, List.length_singleton, e5]
          exact (by (repeat first | exact en_refl | (apply en_blk; focus ((repeat' first | exact Pick.here | apply Pick.skip | apply Pick.app); done); focus rfl) | (apply en_own; focus ((repeat' first | exact Pick.here | apply Pick.skip | apply Pick.app); done); focus rfl) | (apply en_pick; focus ((repeat' first | exact Pick.here | apply Pick.skip | apply Pick.app); done)) | apply en_drop | apply en_app) <;> fail))
  · have key : w ++ l1 ++ q1 = srtO ls (l ++ q) := by
      rw [List.append_assoc]
      refine srtO_eq o (List.pairwise_append.2 ⟨so, ?_, fun a ha b hb => hle a ha b hb⟩) hp
      rcases Nat.eq_zero_or_pos l1.length with h0 | h0
      · rw [List.eq_nil_of_length_eq_zero h0]; exact k3
      · rw [List.eq_nil_of_length_eq_zero (by omega : q1.length = 0), List.append_nil]; exact f3
    have klen : (srtO ls (l ++ q)).length = w.length + l1.length + q1.length := by rw [← key]; simp; omega
    have kfl : flat (srtO ls (l ++ q)) = flat w ++ flat l1 ++ flat q1 := by rw [← key]; simp [flat_append]
    rcases Nat.eq_zero_or_pos l1.length with h0 | h0
    · (repeat first | refine G_seq ?_ | refine G_skip ?_ | refine G_endblk ?_ | refine G_block ?_ | refine G_exit rfl ?_)
      refine G_region ?_
      refine GO_q rfl rfl (ev_move rfl) ?_
      refine GO_q rfl rfl (ev_len rfl) ?_
      refine GO_q rfl rfl (ev_gtr rfl rfl) ?_
      refine GO_q rfl rfl (ev_move rfl) ?_
      refine GO_no rfl rfl rfl (decide_eq_false (by omega)) ?_
      refine GO_no rfl rfl rfl (decide_eq_false (by omega)) ?_
      refine GO_no rfl rfl rfl (decide_eq_false (by omega)) ?_
      refine GO_q rfl rfl (ev_pick_f rfl (decide_eq_false (by omega)) rfl) ?_
      refine GO_nil ?_
      (repeat first | refine G_seq ?_ | refine G_skip ?_ | refine G_endblk ?_ | refine G_block ?_ | refine G_exit rfl ?_)
      refine G_cond_f rfl rfl ?_
      (repeat first | refine G_seq ?_ | refine G_skip ?_ | refine G_endblk ?_ | refine G_block ?_ | refine G_exit rfl ?_)
      refine G_region ?_
      refine GO_q rfl rfl (ev_move rfl) ?_
      refine GO_q rfl rfl (ev_move rfl) ?_
      refine GO_eff rfl rfl (eff_append rfl rfl (by repeat' first | exact Pick.here | apply Pick.skip) ((by repeat' first | assumption | apply Rc.skip)) ((flat_one _)) (by rfl) (by decide) (by first | omega | (simp; done) | (simp; omega)) (by first | omega | (simp; done) | (simp; omega))) ?_; rintro _ _ ⟨A48, c48, rfl, hc48, hm48, hn48, rfl⟩
      refine GO_q rfl rfl (ev_move rfl) ?_
      refine GO_eff rfl rfl (eff_append rfl rfl (by repeat' first | exact Pick.here | apply Pick.skip) ((by repeat' first | assumption | apply Rc.skip)) ((flat_one _)) (by rfl) (by decide) (by first | omega | (simp; done) | (simp; omega)) (by first | omega | (simp; done) | (simp; omega))) ?_; rintro _ _ ⟨A50, c50, rfl, hc50, hm50, hn50, rfl⟩
      refine GO_q rfl rfl (ev_assign rfl) ?_
      refine GO_nil ?_
      (repeat first | refine G_seq ?_ | refine G_skip ?_ | refine G_endblk ?_ | refine G_block ?_ | refine G_exit rfl ?_)
      refine G_ret (L' := own 56 3 A50 (srtO ls (l ++ q)).length c50 (flat (srtO ls (l ++ q))) :: L) rfl (.tmp rfl .nil) ?_ ⟨A50, c50, by rw [klen]; rfl, by rw [klen]; exact hn50, rfl⟩
      rw [klen, kfl]
      exact (by (repeat first | exact en_refl | (apply en_blk; focus ((repeat' first | exact Pick.here | apply Pick.skip | apply Pick.app); done); focus rfl) | (apply en_own; focus ((repeat' first | exact Pick.here | apply Pick.skip | apply Pick.app); done); focus rfl) | (apply en_pick; focus ((repeat' first | exact Pick.here | apply Pick.skip | apply Pick.app); done)) | apply en_drop | apply en_app) <;> fail)
    · (repeat first | refine G_seq ?_ | refine G_skip ?_ | refine G_endblk ?_ | refine G_block ?_ | refine G_exit rfl ?_)
      refine G_region ?_
      refine GO_q rfl rfl (ev_move rfl) ?_
      refine GO_q rfl rfl (ev_len rfl) ?_
      refine GO_q rfl rfl (ev_gtr rfl rfl) ?_
      refine GO_q rfl rfl (ev_move rfl) ?_
      refine GO_yes rfl rfl rfl (decide_eq_true (by omega)) ?_
      refine GO_q rfl rfl (ev_move rfl) ?_
      refine GO_yes rfl rfl rfl (decide_eq_true (by omega)) ?_
      refine GO_q rfl rfl (ev_len rfl) ?_
      refine GO_yes rfl rfl rfl (decide_eq_true (by omega)) ?_
      refine GO_q rfl rfl (ev_gtr rfl rfl) ?_
      refine GO_q rfl rfl (ev_pick_t rfl (decide_eq_true (by omega)) rfl) ?_
      refine GO_nil ?_
      (repeat first | refine G_seq ?_ | refine G_skip ?_ | refine G_endblk ?_ | refine G_block ?_ | refine G_exit rfl ?_)
      refine G_cond_f rfl (decide_eq_false (by omega)) ?_
      (repeat first | refine G_seq ?_ | refine G_skip ?_ | refine G_endblk ?_ | refine G_block ?_ | refine G_exit rfl ?_)
      refine G_region ?_
      refine GO_q rfl rfl (ev_move rfl) ?_
      refine GO_q rfl rfl (ev_move rfl) ?_
      refine GO_eff rfl rfl (eff_append rfl rfl (by repeat' first | exact Pick.here | apply Pick.skip) ((by repeat' first | assumption | apply Rc.skip)) ((flat_one _)) (by rfl) (by decide) (by first | omega | (simp; done) | (simp; omega)) (by first | omega | (simp; done) | (simp; omega))) ?_; rintro _ _ ⟨A48, c48, rfl, hc48, hm48, hn48, rfl⟩
      refine GO_q rfl rfl (ev_move rfl) ?_
      refine GO_eff rfl rfl (eff_append rfl rfl (by repeat' first | exact Pick.here | apply Pick.skip) ((by repeat' first | assumption | apply Rc.skip)) ((flat_one _)) (by rfl) (by decide) (by first | omega | (simp; done) | (simp; omega)) (by first | omega | (simp; done) | (simp; omega))) ?_; rintro _ _ ⟨A50, c50, rfl, hc50, hm50, hn50, rfl⟩
      refine GO_q rfl rfl (ev_assign rfl) ?_
      refine GO_nil ?_
      (repeat first | refine G_seq ?_ | refine G_skip ?_ | refine G_endblk ?_ | refine G_block ?_ | refine G_exit rfl ?_)
      refine G_ret (L' := own 56 3 A50 (srtO ls (l ++ q)).length c50 (flat (srtO ls (l ++ q))) :: L) rfl (.tmp rfl .nil) ?_ ⟨A50, c50, by rw [klen]; rfl, by rw [klen]; exact hn50, rfl⟩
      rw [klen, kfl]
      exact (by (repeat first | exact en_refl | (apply en_blk; focus ((repeat' first | exact Pick.here | apply Pick.skip | apply Pick.app); done); focus rfl) | (apply en_own; focus ((repeat' first | exact Pick.here | apply Pick.skip | apply Pick.app); done); focus rfl) | (apply en_pick; focus ((repeat' first | exact Pick.here | apply Pick.skip | apply Pick.app); done)) | apply en_drop | apply en_app) <;> fail)
theorem sortO_ctr : ∀ (N : Nat) (A : Option Addr) (n c : Nat) (l : List Pt) (L : List HP) (_ : n ≤ N) (_ : Rd L A n l) (_ : n ≤ 1000000) (_ : n ≤ c),
    Ctr Tryz.prog 46 #[.slice A n c, .func (.func f) #[] #[]] L fun v L' => Made 56 (srtO ls l) L v L' := by
  intro N
  induction N with
  | zero =>
    intro A n c l L h0 hl hn hc
    refine Ctr_of (fn := Tryz.f46) (n := 27) Tryz.func46 rfl rfl rfl ?_
    intro g F
    (repeat first | refine G_seq ?_ | refine G_skip ?_ | refine G_endblk ?_ | refine G_block ?_ | refine G_exit rfl ?_)
    refine G_region ?_
    refine GO_q rfl rfl (ev_assign rfl) ?_
    refine GO_nil ?_
    (repeat first | refine G_seq ?_ | refine G_skip ?_ | refine G_endblk ?_ | refine G_block ?_ | refine G_exit rfl ?_)
    refine G_region ?_
    refine GO_q rfl rfl (ev_move rfl) ?_
    refine GO_q rfl rfl (ev_len rfl) ?_
    refine GO_q rfl rfl (ev_leq rfl rfl) ?_
    refine GO_nil ?_
    (repeat first | refine G_seq ?_ | refine G_skip ?_ | refine G_endblk ?_ | refine G_block ?_ | refine G_exit rfl ?_)
    refine G_cond_t rfl (decide_eq_true (by omega)) ?_
    (repeat first | refine G_seq ?_ | refine G_skip ?_ | refine G_endblk ?_ | refine G_block ?_ | refine G_exit rfl ?_)
    refine G_region ?_
    refine GO_q rfl rfl (ev_move rfl) ?_
    refine GO_q rfl rfl (ev_move rfl) ?_
    refine GO_eff rfl rfl (eff_call rfl (byO_ctr o hf A n c l _ (by repeat' first | exact Rc.blk rfl | assumption | apply Rd.skip | apply Rd.app) hn)) ?_; rintro _ _ ⟨A9, c9, rfl, h9, rfl⟩
    refine GO_q rfl rfl (ev_assign rfl) ?_
    refine GO_nil ?_
    (repeat first | refine G_seq ?_ | refine G_skip ?_ | refine G_endblk ?_ | refine G_block ?_ | refine G_exit rfl ?_)
    exact G_ret (L' := own 56 3 A9 (srtO ls l).length c9 (flat (srtO ls l)) :: L) rfl (.tmp rfl .nil) (by (repeat first | exact en_refl | (apply en_blk; focus ((repeat' first | exact Pick.here | apply Pick.skip | apply Pick.app); done); focus rfl) | (apply en_own; focus ((repeat' first | exact Pick.here | apply Pick.skip | apply Pick.app); done); focus rfl) | (apply en_pick; focus ((repeat' first | exact Pick.here | apply Pick.skip | apply Pick.app); done)) | apply en_drop | apply en_app) <;> fail) ⟨A9, c9, rfl, h9, rfl⟩
  | succ N ih =>
    intro A n c l L h0 hl hn hc
    have h1 : l.length = n := hl.len (by decide)
    refine Ctr_of (fn := Tryz.f46) (n := 27) Tryz.func46 rfl rfl rfl ?_
    intro g F
    (repeat first | refine G_seq ?_ | refine G_skip ?_ | refine G_endblk ?_ | refine G_block ?_ | refine G_exit rfl ?_)
    refine G_region ?_
    refine GO_q rfl rfl (ev_assign rfl) ?_
    refine GO_nil ?_
    (repeat first | refine G_seq ?_ | refine G_skip ?_ | refine G_endblk ?_ | refine G_block ?_ | refine G_exit rfl ?_)
    refine G_region ?_
    refine GO_q rfl rfl (ev_move rfl) ?_
    refine GO_q rfl rfl (ev_len rfl) ?_
    refine GO_q rfl rfl (ev_leq rfl rfl) ?_
    refine GO_nil ?_
    (repeat first | refine G_seq ?_ | refine G_skip ?_ | refine G_endblk ?_ | refine G_block ?_ | refine G_exit rfl ?_)
    refine G_cond rfl (fun c1 => ?_) (fun c1 => ?_)
    · (repeat first | refine G_seq ?_ | refine G_skip ?_ | refine G_endblk ?_ | refine G_block ?_ | refine G_exit rfl ?_)
      refine G_region ?_
      refine GO_q rfl rfl (ev_move rfl) ?_
      refine GO_q rfl rfl (ev_move rfl) ?_
      refine GO_eff rfl rfl (eff_call rfl (byO_ctr o hf A n c l _ (by repeat' first | exact Rc.blk rfl | assumption | apply Rd.skip | apply Rd.app) hn)) ?_; rintro _ _ ⟨A9, c9, rfl, h9, rfl⟩
      refine GO_q rfl rfl (ev_assign rfl) ?_
      refine GO_nil ?_
      (repeat first | refine G_seq ?_ | refine G_skip ?_ | refine G_endblk ?_ | refine G_block ?_ | refine G_exit rfl ?_)
      exact G_ret (L' := own 56 3 A9 (srtO ls l).length c9 (flat (srtO ls l)) :: L) rfl (.tmp rfl .nil) (by (repeat first | exact en_refl | (apply en_blk; focus ((repeat' first | exact Pick.here | apply Pick.skip | apply Pick.app); done); focus rfl) | (apply en_own; focus ((repeat' first | exact Pick.here | apply Pick.skip | apply Pick.app); done); focus rfl) | (apply en_pick; focus ((repeat' first | exact Pick.here | apply Pick.skip | apply Pick.app); done)) | apply en_drop | apply en_app) <;> fail) ⟨A9, c9, rfl, h9, rfl⟩
    · obtain ⟨b, o', rfl, _⟩ := hl.at_ (by omega)
      have e2 : srtO ls (srtO ls (l.take (n / 2)) ++ srtO ls (l.drop (n / 2))) = srtO ls l := by rw [srtO_append o, List.take_append_drop]
      have hT : ∀ X, Rd (X ++ L) (some ⟨b, o', none⟩) (n / 2) (l.take (n / 2)) := fun X => Rd.app (hl.take (by omega))
      have hD : ∀ X, Rd (X ++ L) (some ⟨b, (if c = n / 2 then o' else o' + (n / 2) * 3), none⟩) (n - n / 2) (l.drop (n / 2)) := fun X => Rd.app (hl.drop (k := n / 2) (c := c) (by omega) hc)
      (repeat first | refine G_seq ?_ | refine G_skip ?_ | refine G_endblk ?_ | refine G_block ?_ | refine G_exit rfl ?_)
      refine G_region ?_
      refine GO_q rfl rfl (ev_move rfl) ?_
      refine GO_q rfl rfl (ev_len rfl) ?_
      (first | refine GO_q rfl rfl (ev_quoN (q := 2) rfl rfl (by first | omega | (simp; done) | (simp; omega)) (by first | omega | (simp; done) | (simp; omega))) ?_ | refine GO_q rfl rfl (ev_quo rfl rfl (by first | omega | (simp; done) | (simp; omega)) (by first | omega | (simp; done) | (simp; omega)) (by first | omega | (simp; done) | (simp; omega))) ?_)
      refine GO_q rfl rfl (ev_assign rfl) ?_
      refine GO_nil ?_
      (repeat first | refine G_seq ?_ | refine G_skip ?_ | refine G_endblk ?_ | refine G_block ?_ | refine G_exit rfl ?_)
      refine G_draw (.q 0 (.q 1 (.q 2 (.q 3 (.q 5 (.q 6 (.q 7 (.q 8 (.q 10 (.e 4 (.e 9 (.e 11 (.q 12 .nil))))))))))))) (by kernel_rfl) (by kernel_rfl) ?_
      refine RS_m retB_noPanic rfl rfl rfl rfl (ev_move rfl) ?_
      refine RS_m retB_noPanic rfl rfl rfl rfl (ev_move rfl) ?_
      refine RS_q retB_noPanic rfl rfl rfl rfl (ev_sliceH rfl rfl (by first | omega | (simp; done) | (simp; omega))) ?_
      refine RS_m retB_noPanic rfl rfl rfl rfl (ev_move rfl) ?_
      refine RS_m retB_noPanic rfl rfl rfl rfl (ev_move rfl) ?_
      refine RS_m retB_noPanic rfl rfl rfl rfl (ev_move rfl) ?_
      refine RS_q retB_noPanic rfl rfl rfl rfl (ev_sliceL rfl rfl (by first | omega | (simp; done) | (simp; omega)) (by first | omega | (simp; done) | (simp; omega))) ?_
      refine RS_m retB_noPanic rfl rfl rfl rfl (ev_move rfl) ?_
      refine RS_m retB_noPanic rfl rfl rfl rfl (ev_move rfl) ?_
      refine RS_e (RE_eff rfl rfl rfl (eff_call rfl ((ih (some ⟨b, o', none⟩) (n / 2) c (l.take (n / 2)) _ (by omega) (hT [F]) (by omega) (by omega)).made)) ?_); rintro _ _ ⟨A1, c1', rfl, u1, v1, x1, rfl⟩; refine ⟨_, fun _ s => s, (by first | ((repeat first | exact fun _ s => s | apply en_keep | apply en_drop | apply en_app) <;> fail) | ((repeat first | exact en_refl | (apply en_blk; focus ((repeat' first | exact Pick.here | apply Pick.skip | apply Pick.app); done); focus rfl) | (apply en_own; focus ((repeat' first | exact Pick.here | apply Pick.skip | apply Pick.app); done); focus rfl) | (apply en_pick; focus ((repeat' first | exact Pick.here | apply Pick.skip | apply Pick.app); done)) | apply en_drop | apply en_app) <;> fail)), ?_⟩
      refine RS_e (RE_eff rfl rfl rfl (eff_call rfl ((ih (some ⟨b, (if c = n / 2 then o' else o' + (n / 2) * 3), none⟩) (n - n / 2) (c - n / 2) (l.drop (n / 2)) _ (by omega) (hD [own 56 3 A1 (srtO ls (l.take (n / 2))).length c1' (flat (srtO ls (l.take (n / 2)))), F]) (by omega) (by omega)).made)) ?_); rintro _ _ ⟨A2, c2', rfl, u2, v2, x2, rfl⟩; refine ⟨_, fun _ s => s, (by first | ((repeat first | exact fun _ s => s | apply en_keep | apply en_drop | apply en_app) <;> fail) | ((repeat first | exact en_refl | (apply en_blk; focus ((repeat' first | exact Pick.here | apply Pick.skip | apply Pick.app); done); focus rfl) | (apply en_own; focus ((repeat' first | exact Pick.here | apply Pick.skip | apply Pick.app); done); focus rfl) | (apply en_pick; focus ((repeat' first | exact Pick.here | apply Pick.skip | apply Pick.app); done)) | apply en_drop | apply en_app) <;> fail)), ?_⟩
      refine RS_e (RE_eff rfl rfl rfl (eff_call rfl (mergeO_ctr o hf A1 A2 _ _ c1' c2' (srtO ls (l.take (n / 2))) (srtO ls (l.drop (n / 2))) _ (Rd.skip (Rc.own (flat_length _) u1)) (Rc.own (flat_length _) u2) (by rw [srtO_length, List.length_take]; omega) (by rw [srtO_length, List.length_drop]; omega) v1 v2 (srtO_sorted o _) (srtO_sorted o _))) ?_); rintro _ _ ⟨A3, c3', rfl, u3, rfl⟩; refine ⟨_, fun _ s => s, (by first | ((repeat first | exact fun _ s => s | apply en_keep | apply en_drop | apply en_app) <;> fail) | ((repeat first | exact en_refl | (apply en_blk; focus ((repeat' first | exact Pick.here | apply Pick.skip | apply Pick.app); done); focus rfl) | (apply en_own; focus ((repeat' first | exact Pick.here | apply Pick.skip | apply Pick.app); done); focus rfl) | (apply en_pick; focus ((repeat' first | exact Pick.here | apply Pick.skip | apply Pick.app); done)) | apply en_drop | apply en_app) <;> fail)), ?_⟩
      refine RS_m retB_noPanic rfl rfl rfl rfl (ev_assign rfl) ?_
      refine RS_nil ?_
      rw [e2] at u3
      rw [e2]
      (repeat first | refine G_seq ?_ | refine G_skip ?_ | refine G_endblk ?_ | refine G_block ?_ | refine G_exit rfl ?_)
      exact G_ret (L' := own 56 3 A3 (srtO ls l).length c3' (flat (srtO ls l)) :: L) rfl (.tmp rfl .nil) (by (repeat first | exact en_refl | (apply en_blk; focus ((repeat' first | exact Pick.here | apply Pick.skip | apply Pick.app); done); focus rfl) | (apply en_own; focus ((repeat' first | exact Pick.here | apply Pick.skip | apply Pick.app); done); focus rfl) | (apply en_pick; focus ((repeat' first | exact Pick.here | apply Pick.skip | apply Pick.app); done)) | apply en_drop | apply en_app) <;> fail) ⟨A3, c3', rfl, u3, rfl⟩
theorem SortO_ctr (A : Option Addr) (n c : Nat) (l : List Pt) (L : List HP) (hl : Rd L A n l) (hn : n ≤ 1000000) (hc : n ≤ c) :
    Ctr Tryz.prog 25 #[.slice A n c, .func (.func f) #[] #[]] L fun v L' => Made 56 (srtO ls l) L v L' := by
  refine Ctr_of (fn := Tryz.f25) (n := 8) Tryz.func25 rfl rfl rfl ?_
  intro g F
  (repeat first | refine G_seq ?_ | refine G_skip ?_ | refine G_endblk ?_ | refine G_block ?_ | refine G_exit rfl ?_)
  refine G_region ?_
  refine GO_q rfl rfl (ev_assign rfl) ?_
  refine GO_nil ?_
  (repeat first | refine G_seq ?_ | refine G_skip ?_ | refine G_endblk ?_ | refine G_block ?_ | refine G_exit rfl ?_)
  refine G_region ?_
  refine GO_q rfl rfl (ev_move rfl) ?_
  refine GO_q rfl rfl (ev_move rfl) ?_
  refine GO_eff rfl rfl (eff_call rfl (sortO_ctr o hf n A n c l _ (Nat.le_refl _) (by repeat' first | exact Rc.blk rfl | assumption | apply Rd.skip | apply Rd.app) hn hc)) ?_; rintro _ _ ⟨A9, c9, rfl, h9, rfl⟩
  refine GO_q rfl rfl (ev_assign rfl) ?_
  refine GO_nil ?_
  (repeat first | refine G_seq ?_ | refine G_skip ?_ | refine G_endblk ?_ | refine G_block ?_ | refine G_exit rfl ?_)
  exact G_ret (L' := own 56 3 A9 (srtO ls l).length c9 (flat (srtO ls l)) :: L) rfl (.tmp rfl .nil) (by (repeat first | exact en_refl | (apply en_blk; focus ((repeat' first | exact Pick.here | apply Pick.skip | apply Pick.app); done); focus rfl) | (apply en_own; focus ((repeat' first | exact Pick.here | apply Pick.skip | apply Pick.app); done); focus rfl) | (apply en_pick; focus ((repeat' first | exact Pick.here | apply Pick.skip | apply Pick.app); done)) | apply en_drop | apply en_app) <;> fail) ⟨A9, c9, rfl, h9, rfl⟩
end
end Go.Proofs.YtejcamnnfmphkaaGreat
/- Places in lists that are in order: first, behind, has, Put, Cut, Is (out of master/so2.master). -/
namespace Go.Proofs.YtejcamnnfmphkaaGreat
set_option linter.unusedVariables false
set_option linter.unusedSimpArgs false
set_option maxRecDepth 100000

section
variable {f : FuncId} [CalT Tryz.prog f] {ls : Pt → Pt → Bool} (hf : LsT f ls)
include hf
end
end Go.Proofs.YtejcamnnfmphkaaGreat
/- What a contract leaves, put otherwise. No program stands in this text. -/
namespace Go.Proofs.YtejcamnnfmphkaaGreat
theorem Ctr.post' {P : Program} {f : FuncId} {args : Array Value} {L : List HP} {post post' : Value → List HP → Prop} (h : Ctr P f args L post) (hp : ∀ v L' hm, post v L' → sat L' hm → ∃ M, post' v M ∧ sat M hm) : Ctr P f args L post' := fun g F w hw =>
  (h g F w hw).mono fun e w' ⟨v, L', e1, p, q⟩ => by
    obtain ⟨h1, h2, d, s1, s2, a, l⟩ := q.s
    obtain ⟨M, pm, sm⟩ := hp v L' h2 p l
    exact ⟨v, M, e1, pm, q.g, h1, h2, d, s1, s2, a, sm⟩
theorem Ctr.open {P : Program} {f : FuncId} {args : Array Value} {L : List HP} {A : HP} {ι : Type} {N : ι → List HP} {Fa : ι → Prop} {post : Value → List HP → Prop} (op : ∀ h, A h → ∃ x, Fa x ∧ sat (N x) h) (C : ∀ x, Fa x → Ctr P f args (N x ++ L) post) : Ctr P f args (A :: L) post := fun g F w hw => by
  obtain ⟨h1, h2, d, s1, s2, ha, hl⟩ := hw.s.swap
  obtain ⟨x, fx, nx⟩ := op _ ha
  have hs : sat (N x ++ (F :: L)) w.hm := sat.head (A := fun h => h = h1) (fun _ e => e ▸ nx) ⟨h1, h2, d, s1, s2, rfl, hl⟩
  exact C x fx g F w ⟨hw.g, hs.perm List.perm_middle⟩
end Go.Proofs.YtejcamnnfmphkaaGreat
/- The references' sets of points: what lies in memory (out of the texts on pst, by tools/mkps.sh). -/
namespace Go.Proofs.YtejcamnnfmphkaaGreat
set_option linter.unusedVariables false
set_option linter.unusedSimpArgs false
set_option maxRecDepth 100000

def goodId (n : Int) : Bool := decide (1 ≤ n) && decide (n ≤ 2147483647)
def goodP (p : Pt) : Bool := goodId p.id && (good p.x && good p.y)
/-- A function that reads alone, by whatever stands for a part. -/
theorem Ctr.read {P : Program} {f : FuncId} {args : Array Value} {L : List HP} {A : HP} {ι : Type} {φ : ι → Prop} {N : ι → List HP} {R : Value → List HP → Prop} (op : ∀ h, A h → ∃ i, φ i ∧ sat (N i) h) (cl : ∀ i, φ i → ∀ h, sat (N i) h → A h)
    (C : ∀ i, φ i → Ctr P f args (N i ++ L) fun v L' => ∃ X, R v X ∧ L' = X ++ (N i ++ L)) : Ctr P f args (A :: L) fun v L' => ∃ X, R v X ∧ L' = X ++ (A :: L) := fun g F w hw => by
  obtain ⟨h1, h2, d, s1, s2, q, l⟩ := hw.s.swap
  obtain ⟨i, hi, hn⟩ := op _ q
  have hs : sat (N i ++ (F :: L)) w.hm := sat.head (A := fun h => h = h1) (fun _ e => e ▸ hn) ⟨h1, h2, d, s1, s2, rfl, l⟩
  have hs2 : sat (F :: (N i ++ L)) w.hm := hs.perm List.perm_middle
  refine (C i hi g F w ⟨hw.g, hs2⟩).mono fun e w' ⟨v, L', e1, ⟨X, r, e2⟩, hw'⟩ => ?_
  subst e2
  exact ⟨v, _, e1, ⟨X, r, rfl⟩, hw'.mono (en_keep (en_appk fun _ s => sat.fold (cl i hi) s))⟩
theorem pt_list (p q : Pt) : [p.id, p.x, p.y] = [q.id, q.x, q.y] ↔ p = q := by
  rw [Pt.ext_iff']; simp
def insC (most : Int) (l : List Pt) (p : Pt) : Int := if goodP p = false then 1 else if p ∈ l then 5 else if most ≤ l.length then 4 else 0
def delC (l : List Pt) (p : Pt) : Int := if p ∈ l then 0 else 6
theorem srt_congr {l m : List Int} (h : l.Perm m) : srt l = srt m := by rw [← rising_srt l l (.refl _), rising_srt l m h]
/-- A set at a place. -/
def setS (b : Nat) (most : Int) (l : List Pt) : HP := fun h => ∃ x : Option Addr × Nat, (0 < l.length → ∃ b, x.1 = some ⟨b, 0, none⟩) ∧ sat [blk b 36 [.slice x.1 l.length x.2, .int .i64 most], own 56 3 x.1 l.length x.2 (flat l)] h
theorem Ctr.set {P : Program} {f : FuncId} {args : Array Value} {L : List HP} {b : Nat} {most : Int} {l : List Pt} {post : Value → List HP → Prop}
    (C : ∀ A c, (0 < l.length → ∃ b, A = some ⟨b, 0, none⟩) → l.length ≤ c → c ≤ maxLen → Ctr P f args (blk b 36 [.slice A l.length c, .int .i64 most] :: own 56 3 A l.length c (flat l) :: L) post) : Ctr P f args (setS b most l :: L) post := fun g F w hw => by
  obtain ⟨h1, h2, d, s1, s2, ⟨⟨A, c⟩, hA, q⟩, t⟩ := hw.s.swap
  have q0 := own.facts (L := []) q.tail
  have hs : sat ([blk b 36 [.slice A l.length c, .int .i64 most], own 56 3 A l.length c (flat l)] ++ (F :: L)) w.hm := sat.head (A := fun h => h = h1) (fun _ e => e ▸ q) ⟨h1, h2, d, s1, s2, rfl, t⟩
  exact C A c hA q0.2.1 q0.2.2.1 g F w ⟨hw.g, hs.perm (List.perm_middle (l₁ := [blk b 36 [.slice A l.length c, .int .i64 most], own 56 3 A l.length c (flat l)]))⟩
theorem Ld.of {A : HP} {N L : List HP} {a : Addr} {v : Value} (f : ∀ h, A h → sat N h) (l : Ld N a v) : Ld (A :: L) a v := ⟨fun h s => by
  obtain ⟨h1, h2, d, s1, s2, x, t⟩ := s
  exact cellOf.sub (l.1 _ (f _ x)) s1⟩

theorem Ctr.post {P : Program} {f : FuncId} {args : Array Value} {L : List HP} {post post' : Value → List HP → Prop} (h : Ctr P f args L post) (hp : ∀ v L' hm, post v L' → sat L' hm → ∃ M, post' v M ∧ sat M hm) : Ctr P f args L post' := fun g F w hw =>
  (h g F w hw).mono fun e w' ⟨v, L', e1, p, q⟩ => by
    obtain ⟨h1, h2, d, s1, s2, a, l⟩ := q.s
    obtain ⟨M, pm, sm⟩ := hp v L' h2 p l
    exact ⟨v, M, e1, pm, q.g, h1, h2, d, s1, s2, a, sm⟩
/-- Something that was made, of which no more is told than how it reads. -/
def MadeY {α : Type} [E : Enc α] (l : List α) (L : List HP) (v : Value) (L' : List HP) : Prop := ∃ (Y : HP) (A : Option Addr) (c : Nat), v = .slice A l.length c ∧ l.length ≤ c ∧ c ≤ maxLen ∧ (∀ L, Rd (Y :: L) A l.length l) ∧ L' = Y :: L
theorem Rc.of {Y : HP} {N L : List HP} {sz n : Nat} {A : Option Addr} {xs : List Value} (f : ∀ h, Y h → sat N h) (h : Rc N sz A n xs) : Rc (Y :: L) sz A n xs :=
  ⟨h.1, fun hn => let ⟨b, o, e, k⟩ := h.2 hn; ⟨b, o, e, fun j v hj => (k j v hj).of f⟩⟩
theorem Ctr.y {P : Program} {f : FuncId} {args : Array Value} {L : List HP} {α : Type} [E : Enc α] {l : List α} (h : Ctr P f args L fun v L' => ∃ X, (∃ A' c', v = .slice A' l.length c' ∧ l.length ≤ c' ∧ c' ≤ maxLen ∧ Rd X A' l.length l) ∧ L' = X ++ L) : Ctr P f args L fun v L' => MadeY l L v L' :=
  h.post fun v L' hm ⟨X, ⟨A, c, e1, e2, e3, e4⟩, e5⟩ s => ⟨_, ⟨fun h => sat X h, A, c, e1, e2, e3, fun L => Rc.of (fun _ h => h) e4, rfl⟩, sat.join (e5 ▸ s)⟩
end Go.Proofs.YtejcamnnfmphkaaGreat
/- The references' sets of points: the walks (out of the texts on pst, by tools/mkps.sh). -/
namespace Go.Proofs.YtejcamnnfmphkaaGreat
attribute [local irreducible] sat
set_option linter.unusedVariables false
set_option linter.unusedSimpArgs false
set_option maxRecDepth 100000

theorem kid_id_ctr (n : Int) (L : List HP) : Ctr Tryz.prog 44 #[.int .i64 n] L fun v L' => v = .bool (goodId n) ∧ L' = L := by
  refine Ctr_of (fn := Tryz.f44) (n := 9) Tryz.func44 rfl rfl rfl ?_
  intro g F
  (repeat first | refine G_seq ?_ | refine G_skip ?_ | refine G_endblk ?_ | refine G_block ?_ | refine G_exit rfl ?_)
  refine G_region ?_
  refine GO_q rfl rfl (ev_assign rfl) ?_
  refine GO_nil ?_
  (repeat first | refine G_seq ?_ | refine G_skip ?_ | refine G_endblk ?_ | refine G_block ?_ | refine G_exit rfl ?_)
  refine G_region ?_
  refine GO_q rfl rfl (ev_move rfl) ?_
  refine GO_q rfl rfl (ev_geq rfl rfl) ?_
  refine GO_q rfl rfl (ev_move rfl) ?_
  refine GO_guard rfl rfl rfl (fun hc16 => ?y16) (fun hc16 => ?n16)
  case' n16 =>
    have hd16 := hc16
    try simp only [decide_eq_true_eq, decide_eq_false_iff_not, Bool.not_true, Bool.not_false, Bool.not_eq_true', Bool.not_eq_false'] at hd16
    refine GO_no rfl rfl rfl hc16 ?_
    refine GO_q rfl rfl (ev_pick_f rfl hc16 rfl) ?_
    refine GO_q rfl rfl (ev_assign rfl) ?_
    refine GO_nil ?_
    (repeat first | refine G_seq ?_ | refine G_skip ?_ | refine G_endblk ?_ | refine G_block ?_ | refine G_exit rfl ?_)
    refine G_ret rfl (.tmp rfl .nil) (by (repeat first | exact fun _ s => s | apply en_keep | apply en_drop | apply en_app) <;> fail) ⟨by simp_all [retv, goodId] <;> (intros; omega), rfl⟩
  case' y16 =>
    have hd16 := hc16
    try simp only [decide_eq_true_eq, decide_eq_false_iff_not, Bool.not_true, Bool.not_false, Bool.not_eq_true', Bool.not_eq_false'] at hd16
    refine GO_q rfl rfl (ev_move rfl) ?_
    refine GO_yes rfl rfl rfl hc16 ?_
    refine GO_q rfl rfl (ev_leq rfl rfl) ?_
    refine GO_q rfl rfl (ev_pick_t rfl hc16 rfl) ?_
    refine GO_q rfl rfl (ev_assign rfl) ?_
    refine GO_nil ?_
    (repeat first | refine G_seq ?_ | refine G_skip ?_ | refine G_endblk ?_ | refine G_block ?_ | refine G_exit rfl ?_)
    refine G_ret rfl (.tmp rfl .nil) (by (repeat first | exact fun _ s => s | apply en_keep | apply en_drop | apply en_app) <;> fail) ⟨by simp_all [retv, goodId] <;> (intros; omega), rfl⟩
theorem lies_ctr (p : Pt) (L : List HP) : Ctr Tryz.prog 45 #[p.v] L fun v L' => v = .bool (good p.x && good p.y) ∧ L' = L := by
  refine Ctr_of (fn := Tryz.f45) (n := 11) Tryz.func45 rfl rfl rfl ?_
  intro g F
  (repeat first | refine G_seq ?_ | refine G_skip ?_ | refine G_endblk ?_ | refine G_block ?_ | refine G_exit rfl ?_)
  refine G_region ?_
  refine GO_eff rfl rfl (eff_box rfl) ?_; rintro _ _ ⟨b1, rfl, rfl⟩
  refine GO_q rfl rfl (ev_assign rfl) ?_
  refine GO_nil ?_
  (repeat first | refine G_seq ?_ | refine G_skip ?_ | refine G_endblk ?_ | refine G_block ?_ | refine G_exit rfl ?_)
  refine G_region ?_
  refine GO_q rfl rfl (ev_fieldAddr rfl) ?_
  refine GO_q rfl rfl (ev_load rfl (by repeat' first | exact Ld.blk rfl | assumption | apply Ld.skip | apply Ld.app)) ?_
  refine GO_eff rfl rfl (eff_call rfl (Good_ctr _ _)) ?_; rintro _ _ ⟨rfl, rfl⟩
  refine GO_q rfl rfl (ev_move rfl) ?_
  refine GO_guard rfl rfl rfl (fun hc26 => ?y26) (fun hc26 => ?n26)
  case' n26 =>
    have hd26 := hc26
    try simp only [decide_eq_true_eq, decide_eq_false_iff_not, Bool.not_true, Bool.not_false, Bool.not_eq_true', Bool.not_eq_false'] at hd26
    refine GO_no rfl rfl rfl hc26 ?_
    refine GO_no rfl rfl rfl hc26 ?_
    refine GO_q rfl rfl (ev_pick_f rfl hc26 rfl) ?_
    refine GO_q rfl rfl (ev_assign rfl) ?_
    refine GO_nil ?_
    (repeat first | refine G_seq ?_ | refine G_skip ?_ | refine G_endblk ?_ | refine G_block ?_ | refine G_exit rfl ?_)
    refine G_ret rfl (.tmp rfl .nil) (by (repeat first | exact fun _ s => s | apply en_keep | apply en_drop | apply en_app) <;> fail) ⟨by simp_all [retv], rfl⟩
  case' y26 =>
    have hd26 := hc26
    try simp only [decide_eq_true_eq, decide_eq_false_iff_not, Bool.not_true, Bool.not_false, Bool.not_eq_true', Bool.not_eq_false'] at hd26
    refine GO_q rfl rfl (ev_fieldAddr rfl) ?_
    refine GO_yes rfl rfl rfl hc26 ?_
    refine GO_q rfl rfl (ev_load rfl (by repeat' first | exact Ld.blk rfl | assumption | apply Ld.skip | apply Ld.app)) ?_
    refine GO_yes rfl rfl rfl hc26 ?_
    refine GO_eff rfl rfl (eff_call rfl (Good_ctr _ _)) ?_; rintro _ _ ⟨rfl, rfl⟩
    refine GO_q rfl rfl (ev_pick_t rfl hc26 rfl) ?_
    refine GO_q rfl rfl (ev_assign rfl) ?_
    refine GO_nil ?_
    (repeat first | refine G_seq ?_ | refine G_skip ?_ | refine G_endblk ?_ | refine G_block ?_ | refine G_exit rfl ?_)
    refine G_ret rfl (.tmp rfl .nil) (by (repeat first | exact fun _ s => s | apply en_keep | apply en_drop | apply en_app) <;> fail) ⟨by simp_all [retv], rfl⟩
theorem KGood_ctr (p : Pt) (L : List HP) : Ctr Tryz.prog 24 #[p.v] L fun v L' => v = .bool (goodP p) ∧ L' = L := by
  refine Ctr_of (fn := Tryz.f24) (n := 10) Tryz.func24 rfl rfl rfl ?_
  intro g F
  (repeat first | refine G_seq ?_ | refine G_skip ?_ | refine G_endblk ?_ | refine G_block ?_ | refine G_exit rfl ?_)
  refine G_region ?_
  refine GO_eff rfl rfl (eff_box rfl) ?_; rintro _ _ ⟨b1, rfl, rfl⟩
  refine GO_q rfl rfl (ev_assign rfl) ?_
  refine GO_nil ?_
  (repeat first | refine G_seq ?_ | refine G_skip ?_ | refine G_endblk ?_ | refine G_block ?_ | refine G_exit rfl ?_)
  refine G_region ?_
  refine GO_q rfl rfl (ev_fieldAddr rfl) ?_
  refine GO_q rfl rfl (ev_load rfl (by repeat' first | exact Ld.blk rfl | assumption | apply Ld.skip | apply Ld.app)) ?_
  refine GO_eff rfl rfl (eff_call rfl (kid_id_ctr _ _)) ?_; rintro _ _ ⟨rfl, rfl⟩
  refine GO_q rfl rfl (ev_move rfl) ?_
  refine GO_guard rfl rfl rfl (fun hc39 => ?y39) (fun hc39 => ?n39)
  case' n39 =>
    have hd39 := hc39
    try simp only [decide_eq_true_eq, decide_eq_false_iff_not, Bool.not_true, Bool.not_false, Bool.not_eq_true', Bool.not_eq_false'] at hd39
    refine GO_no rfl rfl rfl hc39 ?_
    refine GO_q rfl rfl (ev_pick_f rfl hc39 rfl) ?_
    refine GO_q rfl rfl (ev_assign rfl) ?_
    refine GO_nil ?_
    (repeat first | refine G_seq ?_ | refine G_skip ?_ | refine G_endblk ?_ | refine G_block ?_ | refine G_exit rfl ?_)
    refine G_ret rfl (.tmp rfl .nil) (by (repeat first | exact fun _ s => s | apply en_keep | apply en_drop | apply en_app) <;> fail) ⟨by simp_all [retv, goodP], rfl⟩
  case' y39 =>
    have hd39 := hc39
    try simp only [decide_eq_true_eq, decide_eq_false_iff_not, Bool.not_true, Bool.not_false, Bool.not_eq_true', Bool.not_eq_false'] at hd39
    refine GO_q rfl rfl (ev_loadN rfl (by repeat' first | exact LdN.blk rfl | assumption | apply LdN.skip | apply LdN.app)) ?_
    refine GO_yes rfl rfl rfl hc39 ?_
    refine GO_eff rfl rfl (eff_call rfl (lies_ctr p _)) ?_; rintro _ _ ⟨rfl, rfl⟩
    refine GO_q rfl rfl (ev_pick_t rfl hc39 rfl) ?_
    refine GO_q rfl rfl (ev_assign rfl) ?_
    refine GO_nil ?_
    (repeat first | refine G_seq ?_ | refine G_skip ?_ | refine G_endblk ?_ | refine G_block ?_ | refine G_exit rfl ?_)
    refine G_ret rfl (.tmp rfl .nil) (by (repeat first | exact fun _ s => s | apply en_keep | apply en_drop | apply en_app) <;> fail) ⟨by simp_all [retv, goodP], rfl⟩

def atI (l : List Pt) (p : Pt) : Int := if p ∈ l then (l.idxOf p : Nat) else -1
theorem RID_ctr (n : Int) (L : List HP) : Ctr Tryz.prog 49 #[.int .i64 n] L fun v L' => v = .bool (goodId n) ∧ L' = L := by
  refine Ctr_of (fn := Tryz.f49) (n := 9) Tryz.func49 rfl rfl rfl ?_
  intro g F
  (repeat first | refine G_seq ?_ | refine G_skip ?_ | refine G_endblk ?_ | refine G_block ?_ | refine G_exit rfl ?_)
  refine G_region ?_
  refine GO_q rfl rfl (ev_assign rfl) ?_
  refine GO_nil ?_
  (repeat first | refine G_seq ?_ | refine G_skip ?_ | refine G_endblk ?_ | refine G_block ?_ | refine G_exit rfl ?_)
  refine G_region ?_
  refine GO_q rfl rfl (ev_move rfl) ?_
  refine GO_q rfl rfl (ev_geq rfl rfl) ?_
  refine GO_q rfl rfl (ev_move rfl) ?_
  refine GO_guard rfl rfl rfl (fun hc48 => ?y48) (fun hc48 => ?n48)
  case' n48 =>
    have hd48 := hc48
    try simp only [decide_eq_true_eq, decide_eq_false_iff_not, Bool.not_true, Bool.not_false, Bool.not_eq_true', Bool.not_eq_false'] at hd48
    refine GO_no rfl rfl rfl hc48 ?_
    refine GO_q rfl rfl (ev_pick_f rfl hc48 rfl) ?_
    refine GO_q rfl rfl (ev_assign rfl) ?_
    refine GO_nil ?_
    (repeat first | refine G_seq ?_ | refine G_skip ?_ | refine G_endblk ?_ | refine G_block ?_ | refine G_exit rfl ?_)
    refine G_ret rfl (.tmp rfl .nil) (by (repeat first | exact fun _ s => s | apply en_keep | apply en_drop | apply en_app) <;> fail) ⟨by simp_all [retv, goodId] <;> (intros; omega), rfl⟩
  case' y48 =>
    have hd48 := hc48
    try simp only [decide_eq_true_eq, decide_eq_false_iff_not, Bool.not_true, Bool.not_false, Bool.not_eq_true', Bool.not_eq_false'] at hd48
    refine GO_q rfl rfl (ev_move rfl) ?_
    refine GO_yes rfl rfl rfl hc48 ?_
    refine GO_q rfl rfl (ev_leq rfl rfl) ?_
    refine GO_q rfl rfl (ev_pick_t rfl hc48 rfl) ?_
    refine GO_q rfl rfl (ev_assign rfl) ?_
    refine GO_nil ?_
    (repeat first | refine G_seq ?_ | refine G_skip ?_ | refine G_endblk ?_ | refine G_block ?_ | refine G_exit rfl ?_)
    refine G_ret rfl (.tmp rfl .nil) (by (repeat first | exact fun _ s => s | apply en_keep | apply en_drop | apply en_app) <;> fail) ⟨by simp_all [retv, goodId] <;> (intros; omega), rfl⟩
theorem RLies_ctr (p : Pt) (L : List HP) : Ctr Tryz.prog 50 #[p.v] L fun v L' => v = .bool (good p.x && good p.y) ∧ L' = L := by
  refine Ctr_of (fn := Tryz.f50) (n := 11) Tryz.func50 rfl rfl rfl ?_
  intro g F
  (repeat first | refine G_seq ?_ | refine G_skip ?_ | refine G_endblk ?_ | refine G_block ?_ | refine G_exit rfl ?_)
  refine G_region ?_
  refine GO_eff rfl rfl (eff_box rfl) ?_; rintro _ _ ⟨b1, rfl, rfl⟩
  refine GO_q rfl rfl (ev_assign rfl) ?_
  refine GO_nil ?_
  (repeat first | refine G_seq ?_ | refine G_skip ?_ | refine G_endblk ?_ | refine G_block ?_ | refine G_exit rfl ?_)
  refine G_region ?_
  refine GO_q rfl rfl (ev_fieldAddr rfl) ?_
  refine GO_q rfl rfl (ev_load rfl (by repeat' first | exact Ld.blk rfl | assumption | apply Ld.skip | apply Ld.app)) ?_
  refine GO_eff rfl rfl (eff_call rfl (Coord_ctr _ _)) ?_; rintro _ _ ⟨rfl, rfl⟩
  refine GO_q rfl rfl (ev_move rfl) ?_
  refine GO_guard rfl rfl rfl (fun hc58 => ?y58) (fun hc58 => ?n58)
  case' n58 =>
    have hd58 := hc58
    try simp only [decide_eq_true_eq, decide_eq_false_iff_not, Bool.not_true, Bool.not_false, Bool.not_eq_true', Bool.not_eq_false'] at hd58
    refine GO_no rfl rfl rfl hc58 ?_
    refine GO_no rfl rfl rfl hc58 ?_
    refine GO_q rfl rfl (ev_pick_f rfl hc58 rfl) ?_
    refine GO_q rfl rfl (ev_assign rfl) ?_
    refine GO_nil ?_
    (repeat first | refine G_seq ?_ | refine G_skip ?_ | refine G_endblk ?_ | refine G_block ?_ | refine G_exit rfl ?_)
    refine G_ret rfl (.tmp rfl .nil) (by (repeat first | exact fun _ s => s | apply en_keep | apply en_drop | apply en_app) <;> fail) ⟨by simp_all [retv], rfl⟩
  case' y58 =>
    have hd58 := hc58
    try simp only [decide_eq_true_eq, decide_eq_false_iff_not, Bool.not_true, Bool.not_false, Bool.not_eq_true', Bool.not_eq_false'] at hd58
    refine GO_q rfl rfl (ev_fieldAddr rfl) ?_
    refine GO_yes rfl rfl rfl hc58 ?_
    refine GO_q rfl rfl (ev_load rfl (by repeat' first | exact Ld.blk rfl | assumption | apply Ld.skip | apply Ld.app)) ?_
    refine GO_yes rfl rfl rfl hc58 ?_
    refine GO_eff rfl rfl (eff_call rfl (Coord_ctr _ _)) ?_; rintro _ _ ⟨rfl, rfl⟩
    refine GO_q rfl rfl (ev_pick_t rfl hc58 rfl) ?_
    refine GO_q rfl rfl (ev_assign rfl) ?_
    refine GO_nil ?_
    (repeat first | refine G_seq ?_ | refine G_skip ?_ | refine G_endblk ?_ | refine G_block ?_ | refine G_exit rfl ?_)
    refine G_ret rfl (.tmp rfl .nil) (by (repeat first | exact fun _ s => s | apply en_keep | apply en_drop | apply en_app) <;> fail) ⟨by simp_all [retv], rfl⟩
theorem RGood_ctr (p : Pt) (L : List HP) : Ctr Tryz.prog 29 #[p.v] L fun v L' => v = .bool (goodP p) ∧ L' = L := by
  refine Ctr_of (fn := Tryz.f29) (n := 10) Tryz.func29 rfl rfl rfl ?_
  intro g F
  (repeat first | refine G_seq ?_ | refine G_skip ?_ | refine G_endblk ?_ | refine G_block ?_ | refine G_exit rfl ?_)
  refine G_region ?_
  refine GO_eff rfl rfl (eff_box rfl) ?_; rintro _ _ ⟨b1, rfl, rfl⟩
  refine GO_q rfl rfl (ev_assign rfl) ?_
  refine GO_nil ?_
  (repeat first | refine G_seq ?_ | refine G_skip ?_ | refine G_endblk ?_ | refine G_block ?_ | refine G_exit rfl ?_)
  refine G_region ?_
  refine GO_q rfl rfl (ev_fieldAddr rfl) ?_
  refine GO_q rfl rfl (ev_load rfl (by repeat' first | exact Ld.blk rfl | assumption | apply Ld.skip | apply Ld.app)) ?_
  refine GO_eff rfl rfl (eff_call rfl (RID_ctr _ _)) ?_; rintro _ _ ⟨rfl, rfl⟩
  refine GO_q rfl rfl (ev_move rfl) ?_
  refine GO_guard rfl rfl rfl (fun hc71 => ?y71) (fun hc71 => ?n71)
  case' n71 =>
    have hd71 := hc71
    try simp only [decide_eq_true_eq, decide_eq_false_iff_not, Bool.not_true, Bool.not_false, Bool.not_eq_true', Bool.not_eq_false'] at hd71
    refine GO_no rfl rfl rfl hc71 ?_
    refine GO_q rfl rfl (ev_pick_f rfl hc71 rfl) ?_
    refine GO_q rfl rfl (ev_assign rfl) ?_
    refine GO_nil ?_
    (repeat first | refine G_seq ?_ | refine G_skip ?_ | refine G_endblk ?_ | refine G_block ?_ | refine G_exit rfl ?_)
    refine G_ret rfl (.tmp rfl .nil) (by (repeat first | exact fun _ s => s | apply en_keep | apply en_drop | apply en_app) <;> fail) ⟨by simp_all [retv, goodP], rfl⟩
  case' y71 =>
    have hd71 := hc71
    try simp only [decide_eq_true_eq, decide_eq_false_iff_not, Bool.not_true, Bool.not_false, Bool.not_eq_true', Bool.not_eq_false'] at hd71
    refine GO_q rfl rfl (ev_loadN rfl (by repeat' first | exact LdN.blk rfl | assumption | apply LdN.skip | apply LdN.app)) ?_
    refine GO_yes rfl rfl rfl hc71 ?_
    refine GO_eff rfl rfl (eff_call rfl (RLies_ctr p _)) ?_; rintro _ _ ⟨rfl, rfl⟩
    refine GO_q rfl rfl (ev_pick_t rfl hc71 rfl) ?_
    refine GO_q rfl rfl (ev_assign rfl) ?_
    refine GO_nil ?_
    (repeat first | refine G_seq ?_ | refine G_skip ?_ | refine G_endblk ?_ | refine G_block ?_ | refine G_exit rfl ?_)
    refine G_ret rfl (.tmp rfl .nil) (by (repeat first | exact fun _ s => s | apply en_keep | apply en_drop | apply en_app) <;> fail) ⟨by simp_all [retv, goodP], rfl⟩
def insR (most : Int) (l : List Pt) (p : Pt) : List Pt := if insC most l p = 0 then l ++ [p] else l
/-- The ids of the points that are meant. -/
def hits (f : Pt → Bool) (l : List Pt) : List Int := (l.filter f).map (·.id)
theorem hits_succ (f : Pt → Bool) (l : List Pt) (k : Nat) (h : k < l.length) : hits f (l.take (k + 1)) = hits f (l.take k) ++ if f l[k] = true then [l[k].id] else [] := by
  unfold hits
  rw [List.take_succ_eq_append_getElem h, List.filter_append, List.map_append]
  split <;> simp_all
theorem RReport_ctr0 (b : Nat) (A : Option Addr) (c : Nat) (most : Int) (x : Bx) (l : List Pt) (L : List HP) (h : LdN L b 0 2 [.slice A l.length c, .int .i64 most]) (hl : Rd L A l.length l) (hn : l.length ≤ 100000) :
    Ctr Tryz.prog 9 #[.pointer (some ⟨b, 0, none⟩), .agg #[.int .i64 x.x1, .int .i64 x.x2, .int .i64 x.y1, .int .i64 x.y2]] L fun v L' => ∃ X, (∃ A' c', v = .slice A' (srt (hits (fun p => x.has p.x p.y) l)).length c' ∧ (srt (hits (fun p => x.has p.x p.y) l)).length ≤ c' ∧ c' ≤ maxLen ∧ Rd X A' (srt (hits (fun p => x.has p.x p.y) l)).length (srt (hits (fun p => x.has p.x p.y) l))) ∧ L' = X ++ L := by
  have h1 : Ld L ⟨b, 0 + 0, none⟩ (.slice A l.length c) := h.at_ (i := 0) rfl
  rw [← rising_srt (hits (fun p => x.has p.x p.y) l) _ (.refl _)]
  refine Ctr_of (fn := Tryz.f9) (n := 48) Tryz.func9 rfl rfl rfl ?_
  intro g F
  (repeat first | refine G_seq ?_ | refine G_skip ?_ | refine G_endblk ?_ | refine G_block ?_ | refine G_exit rfl ?_)
  refine G_region ?_
  refine GO_eff rfl rfl (eff_box rfl) ?_; rintro _ _ ⟨b3, rfl, rfl⟩
  refine GO_q rfl rfl (ev_assign rfl) ?_
  refine GO_nil ?_
  (repeat first | refine G_seq ?_ | refine G_skip ?_ | refine G_endblk ?_ | refine G_block ?_ | refine G_exit rfl ?_)
  refine G_region ?_
  refine GO_eff rfl rfl eff_buildSlice0 ?_; rintro _ _ ⟨b7, rfl, rfl⟩
  refine GO_q rfl rfl (ev_assign rfl) ?_
  refine GO_nil ?_
  (repeat first | refine G_seq ?_ | refine G_skip ?_ | refine G_endblk ?_ | refine G_block ?_ | refine G_exit rfl ?_)
  refine G_region ?_
  refine GO_q rfl rfl (ev_assign rfl) ?_
  refine GO_nil ?_
  (repeat first | refine G_seq ?_ | refine G_skip ?_ | refine G_endblk ?_ | refine G_block ?_ | refine G_exit rfl ?_)
  refine G_loop (ι := Nat × Option Addr × Nat × List Int) (fun y => [(0, .pointer (some ⟨b, 0, none⟩)), (3, .pointer (some ⟨b3, 0, none⟩)), (5, .slice y.2.1 y.2.2.2.length y.2.2.1), (6, .int .i64 (y.1 : Nat))]) (fun y => own 3 1 y.2.1 y.2.2.2.length y.2.2.1 (flat y.2.2.2) :: blk b3 25 [.int .i64 x.x1, .int .i64 x.x2, .int .i64 x.y1, .int .i64 x.y2] :: F :: L)
    (fun y => y.1 ≤ l.length ∧ y.2.2.2 = hits (fun p => x.has p.x p.y) (l.take y.1) ∧ y.2.2.2.length ≤ y.1 ∧ y.2.2.2.length ≤ y.2.2.1 ∧ y.2.2.1 ≤ maxLen ∧ (0 < y.2.2.2.length → ∃ b, y.2.1 = some ⟨b, 0, none⟩)) (fun y => l.length - y.1) (0, some ⟨b7, 0, none⟩, 0, []) ⟨Nat.zero_le _, by simp [hits], Nat.le_refl _, Nat.le_refl _, Nat.zero_le _, fun _ => ⟨_, rfl⟩⟩ ⟨rfl, rfl, rfl, rfl, trivial⟩ (by (repeat first | exact fun _ s => s | apply en_keep | apply en_drop | apply en_app) <;> fail) ?_
  rintro ⟨k, A2, d, zs⟩ ⟨f1, f2, f3, f4, f5, f6⟩
  simp only at f1 f2 f3 f4 f5 f6
  dsimp only
  have f7 := f5
  unfold maxLen at f7
  (repeat first | refine G_seq ?_ | refine G_skip ?_ | refine G_endblk ?_ | refine G_block ?_ | refine G_exit rfl ?_)
  refine G_region ?_
  refine GO_q rfl rfl (ev_move rfl) ?_
  refine GO_q rfl rfl (ev_move rfl) ?_
  (first | refine GO_q rfl rfl (ev_nilCheck rfl) ?_ | refine GO_q rfl rfl (ev_nilCheckF (by simp) rfl) ?_)
  refine GO_q rfl rfl (ev_fieldAddr rfl) ?_
  refine GO_q rfl rfl (ev_load rfl (by repeat' first | exact Ld.blk rfl | assumption | apply Ld.skip | apply Ld.app)) ?_
  refine GO_q rfl rfl (ev_len rfl) ?_
  (first | refine GO_q rfl rfl (ev_lssN rfl rfl) ?_ | refine GO_q rfl rfl (ev_lss rfl rfl) ?_)
  refine GO_nil ?_
  (repeat first | refine G_seq ?_ | refine G_skip ?_ | refine G_endblk ?_ | refine G_block ?_ | refine G_exit rfl ?_)
  refine G_cond rfl (fun h4 => ?_) (fun h4 => ?_)
  · obtain ⟨lb, lo, rfl, hx⟩ := hl.at_ (by omega)
    have g1 : l[k]? = some l[k] := List.getElem?_eq_getElem (by omega)
    have y1 := hx _ _ g1
    have s1 := hits_succ (fun p => x.has p.x p.y) l k (by omega)
    generalize l[k] = u at *
    have z0 : Ld L ⟨lb, lo + k * 3 + 0, none⟩ (.int .i64 u.id) := y1.at_ (i := 0) rfl
    have z1 : Ld L ⟨lb, lo + k * 3 + 1, none⟩ (.int .i64 u.x) := y1.at_ (i := 1) rfl
    have z2 : Ld L ⟨lb, lo + k * 3 + 2, none⟩ (.int .i64 u.y) := y1.at_ (i := 2) rfl
    (repeat first | refine G_seq ?_ | refine G_skip ?_ | refine G_endblk ?_ | refine G_block ?_ | refine G_exit rfl ?_)
    refine G_draw (.q 0 (.q 1 (.q 2 (.q 3 (.q 4 (.q 5 (.q 6 (.q 7 (.q 8 (.q 9 (.q 10 (.q 11 (.q 12 (.q 13 (.q 14 (.q 15 (.q 16 (.e 17 .nil)))))))))))))))))) (by kernel_rfl) (by kernel_rfl) ?_
    refine RS_q retB_noPanic rfl rfl rfl rfl (ev_loadN rfl (by repeat' first | exact LdN.blk rfl | assumption | apply LdN.skip | apply LdN.app)) ?_
    refine RS_m retB_noPanic rfl rfl rfl rfl (ev_move rfl) ?_
    (first | refine RS_m retB_noPanic rfl rfl rfl rfl (ev_nilCheck rfl) ?_ | refine RS_m retB_noPanic rfl rfl rfl rfl (ev_nilCheckF (by simp) rfl) ?_)
    refine RS_m retB_noPanic rfl rfl rfl rfl (ev_fieldAddr rfl) ?_
    refine RS_q retB_noPanic rfl rfl rfl rfl (ev_load rfl (by repeat' first | exact Ld.blk rfl | assumption | apply Ld.skip | apply Ld.app)) ?_
    refine RS_m retB_noPanic rfl rfl rfl rfl (ev_move rfl) ?_
    (first | refine RS_m retB_noPanic rfl rfl rfl rfl (ev_indexAddrN rfl rfl (by first | omega | (simp; done) | (simp; omega))) ?_ | refine RS_m retB_noPanic rfl rfl rfl rfl (ev_indexAddr rfl rfl (by first | omega | (simp; done) | (simp; omega)) (by first | omega | (simp; done) | (simp; omega))) ?_)
    refine RS_m retB_noPanic rfl rfl rfl rfl (ev_fieldAddr rfl) ?_
    refine RS_q retB_noPanic rfl rfl rfl rfl (ev_load rfl (by repeat' first | exact Ld.blk rfl | assumption | apply Ld.skip | apply Ld.app)) ?_
    refine RS_m retB_noPanic rfl rfl rfl rfl (ev_move rfl) ?_
    (first | refine RS_m retB_noPanic rfl rfl rfl rfl (ev_nilCheck rfl) ?_ | refine RS_m retB_noPanic rfl rfl rfl rfl (ev_nilCheckF (by simp) rfl) ?_)
    refine RS_m retB_noPanic rfl rfl rfl rfl (ev_fieldAddr rfl) ?_
    refine RS_q retB_noPanic rfl rfl rfl rfl (ev_load rfl (by repeat' first | exact Ld.blk rfl | assumption | apply Ld.skip | apply Ld.app)) ?_
    refine RS_m retB_noPanic rfl rfl rfl rfl (ev_move rfl) ?_
    (first | refine RS_m retB_noPanic rfl rfl rfl rfl (ev_indexAddrN rfl rfl (by first | omega | (simp; done) | (simp; omega))) ?_ | refine RS_m retB_noPanic rfl rfl rfl rfl (ev_indexAddr rfl rfl (by first | omega | (simp; done) | (simp; omega)) (by first | omega | (simp; done) | (simp; omega))) ?_)
    refine RS_m retB_noPanic rfl rfl rfl rfl (ev_fieldAddr rfl) ?_
    refine RS_q retB_noPanic rfl rfl rfl rfl (ev_load rfl (by repeat' first | exact Ld.blk rfl | assumption | apply Ld.skip | apply Ld.app)) ?_
    refine RS_e (RE_last (by kernel_rfl) rfl rfl rfl (eff_call rfl (RHas_ctr x u.x u.y _)) ?_); rintro _ _ ⟨rfl, rfl⟩
    rcases hv : x.has u.x u.y with _ | _
    case' true =>
      (repeat first | refine G_seq ?_ | refine G_skip ?_ | refine G_endblk ?_ | refine G_block ?_ | refine G_exit rfl ?_)
      refine G_cond_t rfl rfl ?_
      (repeat first | refine G_seq ?_ | refine G_skip ?_ | refine G_endblk ?_ | refine G_block ?_ | refine G_exit rfl ?_)
      refine G_region ?_
      refine GO_q rfl rfl (ev_move rfl) ?_
      refine GO_q rfl rfl (ev_move rfl) ?_
      (first | refine GO_q rfl rfl (ev_nilCheck rfl) ?_ | refine GO_q rfl rfl (ev_nilCheckF (by simp) rfl) ?_)
      refine GO_q rfl rfl (ev_fieldAddr rfl) ?_
      refine GO_q rfl rfl (ev_load rfl (by repeat' first | exact Ld.blk rfl | assumption | apply Ld.skip | apply Ld.app)) ?_
      refine GO_q rfl rfl (ev_move rfl) ?_
      (first | refine GO_q rfl rfl (ev_indexAddrN rfl rfl (by first | omega | (simp; done) | (simp; omega))) ?_ | refine GO_q rfl rfl (ev_indexAddr rfl rfl (by first | omega | (simp; done) | (simp; omega)) (by first | omega | (simp; done) | (simp; omega))) ?_)
      refine GO_q rfl rfl (ev_fieldAddr rfl) ?_
      refine GO_q rfl rfl (ev_load rfl (by repeat' first | exact Ld.blk rfl | assumption | apply Ld.skip | apply Ld.app)) ?_
      refine GO_eff rfl rfl (eff_buildSlice1 (by rfl) rfl rfl) ?_; rintro _ _ ⟨b44, rfl, rfl⟩
      refine GO_eff rfl rfl (eff_append rfl rfl (by repeat' first | exact Pick.here | apply Pick.skip) (by repeat' first | exact Rc.blk rfl | assumption | apply Rc.skip) (one_all rfl) (by rfl) (by decide) (by first | omega | (simp; done) | (simp; omega)) (by first | omega | (simp; done) | (simp; omega))) ?_; rintro _ _ ⟨A45, c45, rfl, hc45, hm45, hn45, rfl⟩
      refine GO_q rfl rfl (ev_assign rfl) ?_
      refine GO_nil ?_
      (repeat first | refine G_seq ?_ | refine G_skip ?_ | refine G_endblk ?_ | refine G_block ?_ | refine G_exit rfl ?_)
      refine G_region ?_
      refine GO_q rfl rfl (ev_move rfl) ?_
      (first | refine GO_q rfl rfl (ev_addN (q := 1) rfl rfl (by first | omega | (simp; done) | (simp; omega))) ?_ | refine GO_q rfl rfl (ev_add rfl rfl (by first | omega | (simp; done) | (simp; omega))) ?_)
      refine GO_q rfl rfl (ev_assign rfl) ?_
      refine GO_nil ?_
      (repeat first | refine G_seq ?_ | refine G_skip ?_ | refine G_endblk ?_ | refine G_block ?_ | refine G_exit rfl ?_)
      rw [if_pos hv] at s1
      exact G_round (k + 1, A45, c45, zs ++ [u.id]) ⟨by simp only; omega, by rw [s1, f2], by simp; omega, by simpa using hc45, hm45, fun _ => hn45 (by omega)⟩ (by simp only; omega) ⟨rfl, rfl, by simp only [List.length_append, List.length_singleton]; rfl, rfl, trivial⟩ (by
        simp only [List.length_append, List.length_singleton]
        rw [← flat_snoc]
        exact (by (repeat first | exact fun _ s => s | apply en_keep | apply en_drop | apply en_app) <;> fail))
    case' false =>
      (repeat first | refine G_seq ?_ | refine G_skip ?_ | refine G_endblk ?_ | refine G_block ?_ | refine G_exit rfl ?_)
      refine G_cond_f rfl rfl ?_
      (repeat first | refine G_seq ?_ | refine G_skip ?_ | refine G_endblk ?_ | refine G_block ?_ | refine G_exit rfl ?_)
      refine G_region ?_
      refine GO_q rfl rfl (ev_move rfl) ?_
      (first | refine GO_q rfl rfl (ev_addN (q := 1) rfl rfl (by first | omega | (simp; done) | (simp; omega))) ?_ | refine GO_q rfl rfl (ev_add rfl rfl (by first | omega | (simp; done) | (simp; omega))) ?_)
      refine GO_q rfl rfl (ev_assign rfl) ?_
      refine GO_nil ?_
      (repeat first | refine G_seq ?_ | refine G_skip ?_ | refine G_endblk ?_ | refine G_block ?_ | refine G_exit rfl ?_)
      rw [if_neg (by rw [hv]; simp), List.append_nil] at s1
      exact G_round (k + 1, A2, d, zs) ⟨by simp only; omega, by rw [s1, f2], by simp only; omega, f4, f5, f6⟩ (by simp only; omega) ⟨rfl, rfl, rfl, rfl, trivial⟩ (by (repeat first | exact fun _ s => s | apply en_keep | apply en_drop | apply en_app) <;> fail)
  · have e : k = l.length := by omega
    subst e
    rw [List.take_length] at f2
    rw [← f2]
    (repeat first | refine G_seq ?_ | refine G_skip ?_ | refine G_endblk ?_ | refine G_block ?_ | refine G_exit rfl ?_)
    refine G_region ?_
    refine GO_q rfl rfl (ev_move rfl) ?_
    refine GO_eff rfl rfl (eff_call rfl (Ctr.frame (blk b3 25 [.int .i64 x.x1, .int .i64 x.x2, .int .i64 x.y1, .int .i64 x.y2] :: F :: L) (Rising_ctr A2 zs.length d zs [own 3 1 A2 zs.length d (flat zs)] (Rc.own (flat_length zs) f6) (by omega)) (fun _ s => s.perm (List.perm_append_singleton _ _).symm))) ?_; rintro _ _ ⟨_, ⟨A9, c9, N9, rfl, i1, i2, rfl, i3⟩, rfl⟩
    refine GO_q rfl rfl (ev_assign rfl) ?_
    refine GO_nil ?_
    (repeat first | refine G_seq ?_ | refine G_skip ?_ | refine G_endblk ?_ | refine G_block ?_ | refine G_exit rfl ?_)
    refine G_ret (L' := (N9 ++ [own 3 1 A2 zs.length d (flat zs)]) ++ L) rfl (.tmp rfl .nil) (fun _ s => s.tail.perm (.cons _ List.perm_append_comm)) ⟨_, ⟨A9, c9, rfl, i1, i2, i3⟩, rfl⟩
end Go.Proofs.YtejcamnnfmphkaaGreat
/- A tree of lists that lead into one another: building it. -/
namespace Go.Proofs.YtejcamnnfmphkaaGreat
attribute [local irreducible] sat
set_option linter.unusedVariables false
set_option linter.unusedSimpArgs false
set_option maxRecDepth 100000

/-- A tree as it lies in memory. -/
def RIn (L : List HP) : RT → Prop
  | .nil => True
  | .node b q a u v lo hi => LdN L b 0 5 [.pointer q, .int .i64 u, .int .i64 v, .pointer lo.addr, .pointer hi.addr] ∧ ArrIn L q a ∧ RIn L lo ∧ RIn L hi
theorem RIn.skip {X : HP} {L : List HP} : ∀ {T : RT}, RIn L T → RIn (X :: L) T
  | .nil, _ => trivial
  | .node b q a u v lo hi, ⟨h1, h2, h3, h4⟩ => ⟨h1.skip, h2.skip, h3.skip, h4.skip⟩
theorem RIn.app {N L : List HP} {T : RT} (h : RIn L T) : RIn (N ++ L) T := by
  induction N with
  | nil => exact h
  | cons X N ih => exact ih.skip
theorem less_ls : LsT 26 Pt.less := ⟨fun p q L => less_ctr p q L⟩
/-- Those of a list in order, each once. -/
theorem UniqueO_ctr {f : FuncId} {ls : Pt → Pt → Bool} [CalT Tryz.prog f] (hf : LsT f ls) (o : STO ls) (A : Option Addr) (n c : Nat) (l : List Pt) (L : List HP) (hl : Rd L A n l) (hn : n ≤ 1000000) :
    Ctr Tryz.prog 27 #[.slice A n c, .func (.func f) #[] #[]] L fun v L' => ∃ m : List Pt, (AscO ls l ∧ m = l ∨ ¬ AscO ls l ∧ m.length < n) ∧ Made 56 m L v L' := by
  have h1 : l.length = n := hl.len (by decide)
  refine Ctr_of (fn := Tryz.f27) (n := 35) Tryz.func27 rfl rfl rfl ?_
  intro g F
  refine G_heap (own.nil_ 56 3) ?_
  (repeat first | refine G_seq ?_ | refine G_skip ?_ | refine G_endblk ?_ | refine G_block ?_ | refine G_exit rfl ?_)
  refine G_region ?_
  refine GO_q rfl rfl (ev_assign rfl) ?_
  refine GO_nil ?_
  (repeat first | refine G_seq ?_ | refine G_skip ?_ | refine G_endblk ?_ | refine G_block ?_ | refine G_exit rfl ?_)
  refine G_region ?_
  refine GO_q rfl rfl (ev_assign rfl) ?_
  refine GO_nil ?_
  (repeat first | refine G_seq ?_ | refine G_skip ?_ | refine G_endblk ?_ | refine G_block ?_ | refine G_exit rfl ?_)
  refine G_region ?_
  refine GO_q rfl rfl (ev_move rfl) ?_
  refine GO_q rfl rfl (ev_len rfl) ?_
  refine GO_q rfl rfl (ev_move rfl) ?_
  refine GO_nil ?_
  (repeat first | refine G_seq ?_ | refine G_skip ?_ | refine G_endblk ?_ | refine G_block ?_ | refine G_exit rfl ?_)
  refine G_loop (ι := Nat × Option Addr × Nat × List Pt) (fun z => [(1, .func (.func f) #[] #[]), (5, .slice z.2.1 z.2.2.2.length z.2.2.1), (9, .slice A n c), (10, .int .i64 (n : Nat)), (11, .int .i64 (z.1 : Nat))]) (fun z => own 56 3 z.2.1 z.2.2.2.length z.2.2.1 (flat z.2.2.2) :: F :: L) (fun z => z.1 ≤ n ∧ (AscO ls (l.take z.1) ∧ z.2.2.2 = l.take z.1 ∨ ¬ AscO ls (l.take z.1) ∧ z.2.2.2.length < z.1) ∧ (0 < z.2.2.2.length → ∃ b, z.2.1 = some ⟨b, 0, none⟩)) (fun z => n - z.1) (0, none, 0, []) ⟨Nat.zero_le _, .inl ⟨by simp [AscO], rfl⟩, fun h => absurd h (Nat.lt_irrefl 0)⟩ ⟨rfl, rfl, rfl, rfl, rfl, trivial⟩ (fun _ s => s) ?_
  rintro ⟨i, O, e, q⟩ ⟨f1, f2, f3⟩
  simp only at f1 f2 f3
  dsimp only
  have ho : q.length ≤ i := by
    rcases f2 with ⟨_, h⟩ | ⟨_, h⟩
    · rw [h, List.length_take]; omega
    · omega
  (repeat first | refine G_seq ?_ | refine G_skip ?_ | refine G_endblk ?_ | refine G_block ?_ | refine G_exit rfl ?_)
  refine G_region ?_
  (first | refine GO_q rfl rfl (ev_lssN rfl rfl) ?_ | refine GO_q rfl rfl (ev_lss rfl rfl) ?_)
  refine GO_nil ?_
  (repeat first | refine G_seq ?_ | refine G_skip ?_ | refine G_endblk ?_ | refine G_block ?_ | refine G_exit rfl ?_)
  refine G_cond rfl (fun c1 => ?_) (fun c1 => ?_)
  · obtain ⟨b1, o1, rfl, x1⟩ := hl.at_ (by omega)
    have g1 : l[i]? = some l[i] := List.getElem?_eq_getElem (by omega)
    have s1 : l.take (i + 1) = l.take i ++ [l[i]] := List.take_succ_eq_append_getElem (by omega)
    have y1 := x1 _ _ g1
    have hsub : AscO ls (l.take (i + 1)) → AscO ls (l.take i) := fun h => h.sub (by rw [s1]; exact List.sublist_append_left _ _)
    generalize l[i] = v at *
    have z1 : LdN L b1 (o1 + i * 3) 3 [.int .i64 v.id, .int .i64 v.x, .int .i64 v.y] := y1
    (repeat first | refine G_seq ?_ | refine G_skip ?_ | refine G_endblk ?_ | refine G_block ?_ | refine G_exit rfl ?_)
    refine G_region ?_
    (first | refine GO_q rfl rfl (ev_indexAddrN rfl rfl (by first | omega | (simp; done) | (simp; omega))) ?_ | refine GO_q rfl rfl (ev_indexAddr rfl rfl (by first | omega | (simp; done) | (simp; omega)) (by first | omega | (simp; done) | (simp; omega))) ?_)
    refine GO_q rfl rfl (ev_loadN rfl (by repeat' first | exact LdN.blk rfl | assumption | apply LdN.skip | apply LdN.app)) ?_
    refine GO_eff rfl rfl eff_alloc ?_; rintro _ _ ⟨b7, rfl, rfl⟩
    refine GO_eff rfl rfl (eff_storeN rfl rfl rfl rfl (by repeat' first | exact Upd.here rfl | apply Upd.skip | apply Upd.app)) ?_; rintro _ _ ⟨rfl, rfl⟩
    refine GO_nil ?_
    rcases Nat.eq_zero_or_pos q.length with h0 | h0
    · have hnil : q = [] := List.eq_nil_of_length_eq_zero h0
      subst hnil
      have hi0 : AscO ls (l.take i) ∧ [] = l.take i ∨ ¬ AscO ls (l.take i) ∧ 0 < i := f2
      have hnx : AscO ls (l.take (i + 1)) ∧ [v] = l.take (i + 1) ∨ ¬ AscO ls (l.take (i + 1)) ∧ 1 < i + 1 := by
        rcases hi0 with ⟨a, b⟩ | ⟨a, b⟩
        · left; rw [s1, ← b]; exact ⟨by simp [AscO], rfl⟩
        · right; exact ⟨fun h => a (hsub h), by omega⟩
      (repeat first | refine G_seq ?_ | refine G_skip ?_ | refine G_endblk ?_ | refine G_block ?_ | refine G_exit rfl ?_)
      refine G_region ?_
      refine GO_q rfl rfl (ev_move rfl) ?_
      refine GO_q rfl rfl (ev_len rfl) ?_
      (first | refine GO_q rfl rfl (ev_subN (q := 1) rfl rfl (by first | omega | (simp; done) | (simp; omega))) ?_ | refine GO_q rfl rfl (ev_sub rfl rfl (by first | omega | (simp; done) | (simp; omega))) ?_)
      refine GO_q rfl rfl (ev_assign rfl) ?_
      refine GO_nil ?_
      (repeat first | refine G_seq ?_ | refine G_skip ?_ | refine G_endblk ?_ | refine G_block ?_ | refine G_exit rfl ?_)
      refine G_draw (.q 0 (.q 1 (.q 2 (.q 3 (.q 4 (.q 5 (.q 6 (.q 7 (.q 8 (.e 9 (.q 10 .nil))))))))))) (by kernel_rfl) (by kernel_rfl) ?_
      refine RS_m retB_noPanic rfl rfl rfl rfl (ev_move rfl) ?_
      (first | refine RS_m retB_noPanic rfl rfl rfl rfl (ev_lssN (q := 0) rfl rfl) ?_ | refine RS_m retB_noPanic rfl rfl rfl rfl (ev_lss rfl rfl) ?_)
      refine RS_m retB_noPanic rfl rfl rfl rfl (ev_move rfl) ?_
      refine RS_q_no retB_noPanic rfl rfl rfl ⟨_, rfl, rfl⟩ rfl ?_
      refine RS_q_no retB_noPanic rfl rfl rfl ⟨_, rfl, rfl⟩ rfl ?_
      refine RS_q_no retB_noPanic rfl rfl rfl ⟨_, rfl, rfl⟩ rfl ?_
      refine RS_q_no retB_noPanic rfl rfl rfl ⟨_, rfl, rfl⟩ rfl ?_
      refine RS_q_no retB_noPanic rfl rfl rfl ⟨_, rfl, rfl⟩ rfl ?_
      refine RS_q_no retB_noPanic rfl rfl rfl ⟨_, rfl, rfl⟩ rfl ?_
      refine RS_e (RE_no rfl rfl rfl ⟨_, rfl, rfl⟩ rfl ?_)
      refine RS_m retB_noPanic rfl rfl rfl rfl (ev_pick_t rfl rfl rfl) ?_
      refine RS_nil ?_
      (repeat first | refine G_seq ?_ | refine G_skip ?_ | refine G_endblk ?_ | refine G_block ?_ | refine G_exit rfl ?_)
      refine G_cond_t rfl rfl ?_
      (repeat first | refine G_seq ?_ | refine G_skip ?_ | refine G_endblk ?_ | refine G_block ?_ | refine G_exit rfl ?_)
      refine G_region ?_
      refine GO_q rfl rfl (ev_move rfl) ?_
      refine GO_q rfl rfl (ev_loadN rfl (by repeat' first | exact LdN.blk rfl | assumption | apply LdN.skip | apply LdN.app)) ?_
      refine GO_eff rfl rfl (eff_buildSlice1 (by rfl) rfl rfl) ?_; rintro _ _ ⟨b31, rfl, rfl⟩
      refine GO_eff rfl rfl (eff_append rfl rfl (by repeat' first | exact Pick.here | apply Pick.skip) (by repeat' first | exact Rc.blk rfl | assumption | apply Rc.skip) (one_all rfl) (by rfl) (by decide) (by first | omega | (simp; done) | (simp; omega)) (by first | omega | (simp; done) | (simp; omega))) ?_; rintro _ _ ⟨A32, c32, rfl, hc32, hm32, hn32, rfl⟩
      refine GO_q rfl rfl (ev_assign rfl) ?_
      refine GO_nil ?_
      (repeat first | refine G_seq ?_ | refine G_skip ?_ | refine G_endblk ?_ | refine G_block ?_ | refine G_exit rfl ?_)
      refine G_region ?_
      (first | refine GO_q rfl rfl (ev_addN (q := 1) rfl rfl (by first | omega | (simp; done) | (simp; omega))) ?_ | refine GO_q rfl rfl (ev_add rfl rfl (by first | omega | (simp; done) | (simp; omega))) ?_)
      refine GO_q rfl rfl (ev_move rfl) ?_
      refine GO_nil ?_
      (repeat first | refine G_seq ?_ | refine G_skip ?_ | refine G_endblk ?_ | refine G_block ?_ | refine G_exit rfl ?_)
      refine G_round (i + 1, A32, c32, [v]) ⟨by simp only; omega, hnx, fun _ => hn32 (by simp)⟩ (by simp only; omega) ⟨rfl, rfl, rfl, rfl, rfl, trivial⟩ (by (repeat first | exact en_refl | (apply en_blk; focus ((repeat' first | exact Pick.here | apply Pick.skip | apply Pick.app); done); focus rfl) | (apply en_own; focus ((repeat' first | exact Pick.here | apply Pick.skip | apply Pick.app); done); focus rfl) | (apply en_pick; focus ((repeat' first | exact Pick.here | apply Pick.skip | apply Pick.app); done)) | apply en_drop | apply en_app) <;> fail)
    · obtain ⟨q', z, rfl⟩ : ∃ q' z, q = q' ++ [z] := by
        rcases List.eq_nil_or_concat q with h | ⟨a, b, h⟩
        · subst h; simp at h0
        · exact ⟨a, b, by simpa using h⟩
      have hlo : (q' ++ [z]).length = q'.length + 1 := by simp
      obtain ⟨ob, rfl⟩ := f3 h0
      have hg : (q' ++ [z])[q'.length]? = some z := by simp
      have hz0 : LdN (own 56 3 (some ⟨ob, 0, none⟩) (q'.length + 1) e (flat (q' ++ [z])) :: F :: L) ob (0 + q'.length * 3) 3 [.int .i64 z.id, .int .i64 z.x, .int .i64 z.y] := ld_ownP hlo hg _
      rw [hlo]
      (repeat first | refine G_seq ?_ | refine G_skip ?_ | refine G_endblk ?_ | refine G_block ?_ | refine G_exit rfl ?_)
      refine G_region ?_
      refine GO_q rfl rfl (ev_move rfl) ?_
      refine GO_q rfl rfl (ev_len rfl) ?_
      (first | refine GO_q rfl rfl (ev_subN (q := 1) rfl rfl (by first | omega | (simp; done) | (simp; omega))) ?_ | refine GO_q rfl rfl (ev_sub rfl rfl (by first | omega | (simp; done) | (simp; omega))) ?_)
      refine GO_q rfl rfl (ev_assign rfl) ?_
      refine GO_nil ?_
      (repeat first | refine G_seq ?_ | refine G_skip ?_ | refine G_endblk ?_ | refine G_block ?_ | refine G_exit rfl ?_)
      refine G_draw (.q 0 (.q 1 (.q 2 (.q 3 (.q 4 (.q 5 (.q 6 (.q 7 (.q 8 (.e 9 (.q 10 .nil))))))))))) (by kernel_rfl) (by kernel_rfl) ?_
      refine RS_m retB_noPanic rfl rfl rfl rfl (ev_move rfl) ?_
      (first | refine RS_m retB_noPanic rfl rfl rfl rfl (ev_lssN (q := 0) rfl rfl) ?_ | refine RS_m retB_noPanic rfl rfl rfl rfl (ev_lss rfl rfl) ?_)
      refine RS_m retB_noPanic rfl rfl rfl rfl (ev_move rfl) ?_
      refine RS_m_yes retB_noPanic rfl rfl rfl rfl ⟨_, rfl, (decide_eq_false (by omega))⟩ rfl (ev_move rfl) ?_
      refine RS_m_yes retB_noPanic rfl rfl rfl rfl ⟨_, rfl, (decide_eq_false (by omega))⟩ rfl (ev_move rfl) ?_
      refine RS_m_yes retB_noPanic rfl rfl rfl rfl ⟨_, rfl, (decide_eq_false (by omega))⟩ rfl (ev_move rfl) ?_
      (first | refine RS_m_yes retB_noPanic rfl rfl rfl rfl ⟨_, rfl, (decide_eq_false (by omega))⟩ rfl (ev_indexAddrN rfl rfl (by first | omega | (simp; done) | (simp; omega))) ?_ | refine RS_m_yes retB_noPanic rfl rfl rfl rfl ⟨_, rfl, (decide_eq_false (by omega))⟩ rfl (ev_indexAddr rfl rfl (by first | omega | (simp; done) | (simp; omega)) (by first | omega | (simp; done) | (simp; omega))) ?_)
      refine RS_q_yes retB_noPanic rfl rfl rfl rfl ⟨_, rfl, (decide_eq_false (by omega))⟩ rfl (ev_loadN rfl (by repeat' first | exact hz0 | apply LdN.skip)) ?_
      refine RS_q_yes retB_noPanic rfl rfl rfl rfl ⟨_, rfl, (decide_eq_false (by omega))⟩ rfl (ev_loadN rfl (by repeat' first | exact LdN.blk rfl | assumption | apply LdN.skip | apply LdN.app)) ?_
      refine RS_e (RE_eff_yes rfl rfl rfl ⟨_, rfl, (decide_eq_false (by omega))⟩ rfl (eff_callv rfl rfl (hf.ctr z v _)) ?_); rintro _ _ ⟨rfl, rfl⟩; refine ⟨_, fun _ s => s, (by first | ((repeat first | exact fun _ s => s | apply en_keep | apply en_drop | apply en_app) <;> fail) | ((repeat first | exact en_refl | (apply en_blk; focus ((repeat' first | exact Pick.here | apply Pick.skip | apply Pick.app); done); focus rfl) | (apply en_own; focus ((repeat' first | exact Pick.here | apply Pick.skip | apply Pick.app); done); focus rfl) | (apply en_pick; focus ((repeat' first | exact Pick.here | apply Pick.skip | apply Pick.app); done)) | apply en_drop | apply en_app) <;> fail)), ?_⟩
      refine RS_m retB_noPanic rfl rfl rfl rfl (ev_pick_f rfl (decide_eq_false (by omega)) rfl) ?_
      refine RS_nil ?_
      by_cases c2 : ls z v = true
      · have hnx : AscO ls (l.take (i + 1)) ∧ q' ++ [z] ++ [v] = l.take (i + 1) ∨ ¬ AscO ls (l.take (i + 1)) ∧ (q' ++ [z] ++ [v]).length < i + 1 := by
          rcases f2 with ⟨a, b⟩ | ⟨a, b⟩
          · left
            rw [s1, ← b]
            refine ⟨?_, rfl⟩
            rw [← b] at a
            unfold AscO at a ⊢
            rw [List.pairwise_append]
            refine ⟨a, by simp, fun x hx y hy => ?_⟩
            simp at hy; subst hy
            rcases List.mem_append.1 hx with hx | hx
            · rw [List.pairwise_append] at a
              exact o.tr (a.2.2 x hx z (by simp)) c2
            · simp at hx; subst hx; exact c2
          · right; refine ⟨fun h => a (hsub h), ?_⟩; rw [List.length_append]; simp only [List.length_singleton]; omega
        (repeat first | refine G_seq ?_ | refine G_skip ?_ | refine G_endblk ?_ | refine G_block ?_ | refine G_exit rfl ?_)
        refine G_cond_t rfl c2 ?_
        (repeat first | refine G_seq ?_ | refine G_skip ?_ | refine G_endblk ?_ | refine G_block ?_ | refine G_exit rfl ?_)
        refine G_region ?_
        refine GO_q rfl rfl (ev_move rfl) ?_
        refine GO_q rfl rfl (ev_loadN rfl (by repeat' first | exact LdN.blk rfl | assumption | apply LdN.skip | apply LdN.app)) ?_
        refine GO_eff rfl rfl (eff_buildSlice1 (by rfl) rfl rfl) ?_; rintro _ _ ⟨b31, rfl, rfl⟩
        refine GO_eff rfl rfl (eff_append rfl rfl (by repeat' first | exact Pick.here | apply Pick.skip) (by repeat' first | exact Rc.blk rfl | assumption | apply Rc.skip) (one_all rfl) (by rfl) (by decide) (by first | omega | (simp; done) | (simp; omega)) (by first | omega | (simp; done) | (simp; omega))) ?_; rintro _ _ ⟨A32, c32, rfl, hc32, hm32, hn32, rfl⟩
        refine GO_q rfl rfl (ev_assign rfl) ?_
        refine GO_nil ?_
        (repeat first | refine G_seq ?_ | refine G_skip ?_ | refine G_endblk ?_ | refine G_block ?_ | refine G_exit rfl ?_)
        refine G_region ?_
        (first | refine GO_q rfl rfl (ev_addN (q := 1) rfl rfl (by first | omega | (simp; done) | (simp; omega))) ?_ | refine GO_q rfl rfl (ev_add rfl rfl (by first | omega | (simp; done) | (simp; omega))) ?_)
        refine GO_q rfl rfl (ev_move rfl) ?_
        refine GO_nil ?_
        (repeat first | refine G_seq ?_ | refine G_skip ?_ | refine G_endblk ?_ | refine G_block ?_ | refine G_exit rfl ?_)
        exact G_round (i + 1, A32, c32, q' ++ [z] ++ [v]) ⟨by simp only; omega, hnx, fun _ => hn32 (by omega)⟩ (by simp only; omega) ⟨rfl, by simp only [List.length_append, List.length_singleton]; rfl, rfl, rfl, rfl, trivial⟩ (by
          simp only [List.length_append, List.length_singleton]
          rw [flat_append (q' ++ [z]) [v]]
          exact (by (repeat first | exact en_refl | (apply en_blk; focus ((repeat' first | exact Pick.here | apply Pick.skip | apply Pick.app); done); focus rfl) | (apply en_own; focus ((repeat' first | exact Pick.here | apply Pick.skip | apply Pick.app); done); focus rfl) | (apply en_pick; focus ((repeat' first | exact Pick.here | apply Pick.skip | apply Pick.app); done)) | apply en_drop | apply en_app) <;> fail))
      · have hnx : AscO ls (l.take (i + 1)) ∧ q' ++ [z] = l.take (i + 1) ∨ ¬ AscO ls (l.take (i + 1)) ∧ (q' ++ [z]).length < i + 1 := by
          right
          rcases f2 with ⟨a, b⟩ | ⟨a, b⟩
          · refine ⟨fun h => c2 ?_, by omega⟩
            rw [s1, ← b] at h
            unfold AscO at h
            rw [List.pairwise_append] at h
            exact h.2.2 z (by simp) v (by simp)
          · exact ⟨fun h => a (hsub h), by omega⟩
        have c3 : ls z v = false := by simpa using c2
        (repeat first | refine G_seq ?_ | refine G_skip ?_ | refine G_endblk ?_ | refine G_block ?_ | refine G_exit rfl ?_)
        refine G_cond_f rfl c3 ?_
        (repeat first | refine G_seq ?_ | refine G_skip ?_ | refine G_endblk ?_ | refine G_block ?_ | refine G_exit rfl ?_)
        (repeat first | refine G_seq ?_ | refine G_skip ?_ | refine G_endblk ?_ | refine G_block ?_ | refine G_exit rfl ?_)
        refine G_region ?_
        (first | refine GO_q rfl rfl (ev_addN (q := 1) rfl rfl (by first | omega | (simp; done) | (simp; omega))) ?_ | refine GO_q rfl rfl (ev_add rfl rfl (by first | omega | (simp; done) | (simp; omega))) ?_)
        refine GO_q rfl rfl (ev_move rfl) ?_
        refine GO_nil ?_
        (repeat first | refine G_seq ?_ | refine G_skip ?_ | refine G_endblk ?_ | refine G_block ?_ | refine G_exit rfl ?_)
        exact G_round (i + 1, some ⟨ob, 0, none⟩, e, q' ++ [z]) ⟨by simp only; omega, hnx, fun _ => ⟨ob, rfl⟩⟩ (by simp only; omega) ⟨rfl, by simp only [List.length_append, List.length_singleton]; rfl, rfl, rfl, rfl, trivial⟩ (by
          simp only [List.length_append, List.length_singleton]
          exact (by (repeat first | exact en_refl | (apply en_blk; focus ((repeat' first | exact Pick.here | apply Pick.skip | apply Pick.app); done); focus rfl) | (apply en_own; focus ((repeat' first | exact Pick.here | apply Pick.skip | apply Pick.app); done); focus rfl) | (apply en_pick; focus ((repeat' first | exact Pick.here | apply Pick.skip | apply Pick.app); done)) | apply en_drop | apply en_app) <;> fail))
  · have e0 : i = n := by omega
    subst e0
    rw [List.take_of_length_le (by omega)] at f2
    (repeat first | refine G_seq ?_ | refine G_skip ?_ | refine G_endblk ?_ | refine G_block ?_ | refine G_exit rfl ?_)
    refine G_region ?_
    refine GO_q rfl rfl (ev_move rfl) ?_
    refine GO_q rfl rfl (ev_assign rfl) ?_
    refine GO_nil ?_
    (repeat first | refine G_seq ?_ | refine G_skip ?_ | refine G_endblk ?_ | refine G_block ?_ | refine G_exit rfl ?_)
    exact G_ret (L' := own 56 3 O q.length e (flat q) :: L) rfl (.tmp rfl .nil) (by (repeat first | exact en_refl | (apply en_blk; focus ((repeat' first | exact Pick.here | apply Pick.skip | apply Pick.app); done); focus rfl) | (apply en_own; focus ((repeat' first | exact Pick.here | apply Pick.skip | apply Pick.app); done); focus rfl) | (apply en_pick; focus ((repeat' first | exact Pick.here | apply Pick.skip | apply Pick.app); done)) | apply en_drop | apply en_app) <;> fail) ⟨q, f2, O, e, rfl, f3, rfl⟩
theorem build_ctr : ∀ (N : Nat) (A : Option Addr) (n c : Nat) (l : List Pt) (L : List HP) (_ : n ≤ N) (_ : Rd L A n l) (_ : n ≤ 100000) (_ : n ≤ c) (_ : c ≤ maxLen),
    Ctr Tryz.prog 28 #[.slice A n c] L fun v L' => ∃ T N', v = .pointer T.addr ∧ T.of l ∧ L' = N' ++ L ∧ RIn (N' ++ L) T := by
  intro N
  induction N using Nat.strongRecOn with
  | _ N ih =>
  intro A n c l L hN hl hn hc hc2
  have h1 : l.length = n := hl.len (by decide)
  rcases Nat.eq_zero_or_pos n with h0 | h0
  · subst h0
    have e0 : l = [] := List.eq_nil_of_length_eq_zero h1
    subst e0
    refine Ctr_of (fn := Tryz.f28) (n := 69) Tryz.func28 rfl rfl rfl ?_
    intro g F
    (repeat first | refine G_seq ?_ | refine G_skip ?_ | refine G_endblk ?_ | refine G_block ?_ | refine G_exit rfl ?_)
    refine G_region ?_
    refine GO_q rfl rfl (ev_assign rfl) ?_
    refine GO_nil ?_
    (repeat first | refine G_seq ?_ | refine G_skip ?_ | refine G_endblk ?_ | refine G_block ?_ | refine G_exit rfl ?_)
    refine G_region ?_
    refine GO_q rfl rfl (ev_move rfl) ?_
    refine GO_q rfl rfl (ev_len rfl) ?_
    refine GO_q rfl rfl (ev_eql rfl rfl) ?_
    refine GO_nil ?_
    (repeat first | refine G_seq ?_ | refine G_skip ?_ | refine G_endblk ?_ | refine G_block ?_ | refine G_exit rfl ?_)
    refine G_cond_t rfl rfl ?_
    (repeat first | refine G_seq ?_ | refine G_skip ?_ | refine G_endblk ?_ | refine G_block ?_ | refine G_exit rfl ?_)
    refine G_region ?_
    refine GO_q rfl rfl (ev_assign rfl) ?_
    refine GO_nil ?_
    (repeat first | refine G_seq ?_ | refine G_skip ?_ | refine G_endblk ?_ | refine G_block ?_ | refine G_exit rfl ?_)
    exact G_ret (L' := [] ++ L) rfl (.tmp rfl .nil) (by (repeat first | exact fun _ s => s | apply en_keep | apply en_drop | apply en_app) <;> fail) ⟨.nil, [], rfl, rfl, rfl, trivial⟩
  · obtain ⟨bb, o, rfl, hx⟩ := hl.at_ h0
    have g0 : l[0]? = some l[0] := List.getElem?_eq_getElem (by omega)
    have g1 : l[n - 1]? = some l[n - 1] := List.getElem?_eq_getElem (by omega)
    have g1' : l[l.length - 1]? = some l[n - 1] := (congrArg (fun k => l[k - 1]?) h1).trans g1
    have y0 := hx _ _ g0
    have y1 := hx _ _ g1
    have m1 := hl.take (k := (n + 1) / 2) (by omega)
    have m2 := hl.drop (k := (n + 1) / 2) (c := c) (by omega) hc
    by_cases h2 : n = 1
    · obtain ⟨p, rfl⟩ : ∃ p, l = [p] := by
        match l, h1 with
        | [p], _ => exact ⟨p, rfl⟩
        | [], h => simp at h; omega
        | _ :: _ :: _, h => simp at h; omega
      subst h2
      simp only [List.getElem_singleton] at *
      have z0 : LdN L bb (o + 0 * 3) 3 [.int .i64 p.id, .int .i64 p.x, .int .i64 p.y] := y0
      have z1 : Ld L ⟨bb, o + 0 * 3 + 1, none⟩ (.int .i64 p.x) := z0.at_ (i := 1) rfl
      have z2 : Ld L ⟨bb, o + (1 - 1) * 3 + 1, none⟩ (.int .i64 p.x) := z1
      refine Ctr_of (fn := Tryz.f28) (n := 69) Tryz.func28 rfl rfl rfl ?_
      intro g F
      (repeat first | refine G_seq ?_ | refine G_skip ?_ | refine G_endblk ?_ | refine G_block ?_ | refine G_exit rfl ?_)
      refine G_region ?_
      refine GO_q rfl rfl (ev_assign rfl) ?_
      refine GO_nil ?_
      (repeat first | refine G_seq ?_ | refine G_skip ?_ | refine G_endblk ?_ | refine G_block ?_ | refine G_exit rfl ?_)
      refine G_region ?_
      refine GO_q rfl rfl (ev_move rfl) ?_
      refine GO_q rfl rfl (ev_len rfl) ?_
      refine GO_q rfl rfl (ev_eql rfl rfl) ?_
      refine GO_nil ?_
      (repeat first | refine G_seq ?_ | refine G_skip ?_ | refine G_endblk ?_ | refine G_block ?_ | refine G_exit rfl ?_)
      refine G_cond_f rfl rfl ?_
      (repeat first | refine G_seq ?_ | refine G_skip ?_ | refine G_endblk ?_ | refine G_block ?_ | refine G_exit rfl ?_)
      refine G_draw (.q 0 (.q 1 (.q 2 (.q 3 (.q 4 (.q 5 (.q 6 (.q 7 (.q 8 (.q 9 (.q 10 (.q 11 (.e 12 (.q 13 .nil)))))))))))))) (by kernel_rfl) (by kernel_rfl) ?_
      refine RS_m retB_noPanic rfl rfl rfl rfl (ev_move rfl) ?_
      (first | refine RS_m retB_noPanic rfl rfl rfl rfl (ev_indexAddrN rfl rfl (by first | omega | (simp; done) | (simp; omega))) ?_ | refine RS_m retB_noPanic rfl rfl rfl rfl (ev_indexAddr rfl rfl (by first | omega | (simp; done) | (simp; omega)) (by first | omega | (simp; done) | (simp; omega))) ?_)
      refine RS_m retB_noPanic rfl rfl rfl rfl (ev_fieldAddr rfl) ?_
      refine RS_q retB_noPanic rfl rfl rfl rfl (ev_load rfl (by repeat' first | exact Ld.blk rfl | assumption | apply Ld.skip | apply Ld.app)) ?_
      refine RS_m retB_noPanic rfl rfl rfl rfl (ev_move rfl) ?_
      refine RS_m retB_noPanic rfl rfl rfl rfl (ev_move rfl) ?_
      refine RS_q retB_noPanic rfl rfl rfl rfl (ev_len rfl) ?_
      (first | refine RS_m retB_noPanic rfl rfl rfl rfl (ev_subN (q := 1) rfl rfl (by first | omega | (simp; done) | (simp; omega))) ?_ | refine RS_m retB_noPanic rfl rfl rfl rfl (ev_sub rfl rfl (by first | omega | (simp; done) | (simp; omega))) ?_)
      (first | refine RS_m retB_noPanic rfl rfl rfl rfl (ev_indexAddrN rfl rfl (by first | omega | (simp; done) | (simp; omega))) ?_ | refine RS_m retB_noPanic rfl rfl rfl rfl (ev_indexAddr rfl rfl (by first | omega | (simp; done) | (simp; omega)) (by first | omega | (simp; done) | (simp; omega))) ?_)
      refine RS_m retB_noPanic rfl rfl rfl rfl (ev_fieldAddr rfl) ?_
      refine RS_q retB_noPanic rfl rfl rfl rfl (ev_load rfl (by repeat' first | exact Ld.blk rfl | assumption | apply Ld.skip | apply Ld.app)) ?_
      refine RS_m retB_noPanic rfl rfl rfl rfl (ev_build rfl rfl) ?_
      refine RS_e (RE_eff rfl rfl rfl (eff_box rfl) ?_); rintro _ _ ⟨b20, rfl, rfl⟩; refine ⟨_, fun _ s => s, (by first | ((repeat first | exact fun _ s => s | apply en_keep | apply en_drop | apply en_app) <;> fail) | ((repeat first | exact en_refl | (apply en_blk; focus ((repeat' first | exact Pick.here | apply Pick.skip | apply Pick.app); done); focus rfl) | (apply en_own; focus ((repeat' first | exact Pick.here | apply Pick.skip | apply Pick.app); done); focus rfl) | (apply en_pick; focus ((repeat' first | exact Pick.here | apply Pick.skip | apply Pick.app); done)) | apply en_drop | apply en_app) <;> fail)), ?_⟩
      refine RS_m retB_noPanic rfl rfl rfl rfl (ev_assign rfl) ?_
      refine RS_nil ?_
      (repeat first | refine G_seq ?_ | refine G_skip ?_ | refine G_endblk ?_ | refine G_block ?_ | refine G_exit rfl ?_)
      refine G_region ?_
      refine GO_q rfl rfl (ev_move rfl) ?_
      refine GO_q rfl rfl (ev_len rfl) ?_
      refine GO_q rfl rfl (ev_eql rfl rfl) ?_
      refine GO_nil ?_
      (repeat first | refine G_seq ?_ | refine G_skip ?_ | refine G_endblk ?_ | refine G_block ?_ | refine G_exit rfl ?_)
      refine G_cond_t rfl rfl ?_
      (repeat first | refine G_seq ?_ | refine G_skip ?_ | refine G_endblk ?_ | refine G_block ?_ | refine G_exit rfl ?_)
      refine G_region ?_
      refine GO_q rfl rfl (ev_move rfl) ?_
      refine GO_q rfl rfl (ev_move rfl) ?_
      (first | refine GO_q rfl rfl (ev_indexAddrN rfl rfl (by first | omega | (simp; done) | (simp; omega))) ?_ | refine GO_q rfl rfl (ev_indexAddr rfl rfl (by first | omega | (simp; done) | (simp; omega)) (by first | omega | (simp; done) | (simp; omega))) ?_)
      refine GO_q rfl rfl (ev_loadN rfl (by repeat' first | exact LdN.blk rfl | assumption | apply LdN.skip | apply LdN.app)) ?_
      refine GO_eff rfl rfl (eff_call rfl (Ctr.frame [blk b20 85 [.pointer none, .int .i64 p.x, .int .i64 p.x, .pointer none, .pointer none], F] (Leaf_ctr p L) (fun _ s => s))) ?_; rintro _ _ ⟨L1, ⟨q, N1, rfl, rfl, hq⟩, rfl⟩
      (first | refine GO_q rfl rfl (ev_nilCheck rfl) ?_ | refine GO_q rfl rfl (ev_nilCheckF (by simp) rfl) ?_)
      refine GO_q rfl rfl (ev_fieldAddr rfl) ?_
      refine GO_eff rfl rfl (eff_store rfl rfl rfl (by repeat' first | exact Upd.here rfl | apply Upd.skip | apply Upd.app)) ?_; rintro _ _ ⟨rfl, rfl⟩
      refine GO_nil ?_
      (repeat first | refine G_seq ?_ | refine G_skip ?_ | refine G_endblk ?_ | refine G_block ?_ | refine G_exit rfl ?_)
      refine G_region ?_
      refine GO_q rfl rfl (ev_move rfl) ?_
      refine GO_q rfl rfl (ev_assign rfl) ?_
      refine GO_nil ?_
      (repeat first | refine G_seq ?_ | refine G_skip ?_ | refine G_endblk ?_ | refine G_block ?_ | refine G_exit rfl ?_)
      refine G_ret (L' := (blk b20 85 [.pointer q, .int .i64 p.x, .int .i64 p.x, .pointer none, .pointer none] :: N1) ++ L) rfl (.tmp rfl .nil) (fun _ s => s.swap) ⟨.node b20 q (leaf p) p.x p.x .nil .nil, _, rfl, ⟨⟨p, rfl, rfl⟩, ⟨p, rfl, rfl⟩, .inl ⟨p, rfl, rfl, rfl, rfl⟩⟩, rfl, LdN.blk rfl, hq.skip, trivial, trivial⟩
    · have i1 := ih ((n + 1) / 2) (by omega) _ ((n + 1) / 2) c _ L (Nat.le_refl _) m1 (by omega) (by omega) hc2
      have i2 := fun M => ih (n - (n + 1) / 2) (by omega) _ (n - (n + 1) / 2) (c - (n + 1) / 2) _ (M ++ L) (Nat.le_refl _) (m2.app (N := M)) (by omega) (by omega) (by omega)
      have k1 : (l.take ((n + 1) / 2)).length = (n + 1) / 2 := by rw [List.length_take]; omega
      have k2 : (l.drop ((n + 1) / 2)).length = n - (n + 1) / 2 := by rw [List.length_drop]; omega
      have hof : ∀ b q a lo hi, lo.of (l.take ((n + 1) / 2)) → hi.of (l.drop ((n + 1) / 2)) → a = join lo.arr hi.arr → (RT.node b q a l[0].x l[n - 1].x lo hi).of l := fun b q a lo hi hh1 hh2 hh3 => ⟨⟨_, g0, rfl⟩, ⟨_, g1', rfl⟩, .inr ⟨by omega, by rw [h1]; exact hh1, by rw [h1]; exact hh2, hh3⟩⟩
      generalize l[0] = pf at *
      generalize l[n - 1] = pg at *
      have z0 : LdN L bb (o + 0 * 3) 3 [.int .i64 pf.id, .int .i64 pf.x, .int .i64 pf.y] := y0
      have z1 : Ld L ⟨bb, o + 0 * 3 + 1, none⟩ (.int .i64 pf.x) := z0.at_ (i := 1) rfl
      have z3 : LdN L bb (o + (n - 1) * 3) 3 [.int .i64 pg.id, .int .i64 pg.x, .int .i64 pg.y] := y1
      have z2 : Ld L ⟨bb, o + (n - 1) * 3 + 1, none⟩ (.int .i64 pg.x) := z3.at_ (i := 1) rfl
      generalize l.take ((n + 1) / 2) = la at *
      generalize l.drop ((n + 1) / 2) = lb at *
      generalize hmid : (n + 1) / 2 = mid at *
      unfold maxLen at hc2
      refine Ctr_of (fn := Tryz.f28) (n := 69) Tryz.func28 rfl rfl rfl ?_
      intro g F
      (repeat first | refine G_seq ?_ | refine G_skip ?_ | refine G_endblk ?_ | refine G_block ?_ | refine G_exit rfl ?_)
      refine G_region ?_
      refine GO_q rfl rfl (ev_assign rfl) ?_
      refine GO_nil ?_
      (repeat first | refine G_seq ?_ | refine G_skip ?_ | refine G_endblk ?_ | refine G_block ?_ | refine G_exit rfl ?_)
      refine G_region ?_
      refine GO_q rfl rfl (ev_move rfl) ?_
      refine GO_q rfl rfl (ev_len rfl) ?_
      refine GO_q rfl rfl (ev_eql rfl rfl) ?_
      refine GO_nil ?_
      (repeat first | refine G_seq ?_ | refine G_skip ?_ | refine G_endblk ?_ | refine G_block ?_ | refine G_exit rfl ?_)
      refine G_cond_f rfl (decide_eq_false (by omega)) ?_
      (repeat first | refine G_seq ?_ | refine G_skip ?_ | refine G_endblk ?_ | refine G_block ?_ | refine G_exit rfl ?_)
      refine G_draw (.q 0 (.q 1 (.q 2 (.q 3 (.q 4 (.q 5 (.q 6 (.q 7 (.q 8 (.q 9 (.q 10 (.q 11 (.e 12 (.q 13 .nil)))))))))))))) (by kernel_rfl) (by kernel_rfl) ?_
      refine RS_m retB_noPanic rfl rfl rfl rfl (ev_move rfl) ?_
      (first | refine RS_m retB_noPanic rfl rfl rfl rfl (ev_indexAddrN rfl rfl (by first | omega | (simp; done) | (simp; omega))) ?_ | refine RS_m retB_noPanic rfl rfl rfl rfl (ev_indexAddr rfl rfl (by first | omega | (simp; done) | (simp; omega)) (by first | omega | (simp; done) | (simp; omega))) ?_)
      refine RS_m retB_noPanic rfl rfl rfl rfl (ev_fieldAddr rfl) ?_
      refine RS_q retB_noPanic rfl rfl rfl rfl (ev_load rfl (by repeat' first | exact Ld.blk rfl | assumption | apply Ld.skip | apply Ld.app)) ?_
      refine RS_m retB_noPanic rfl rfl rfl rfl (ev_move rfl) ?_
      refine RS_m retB_noPanic rfl rfl rfl rfl (ev_move rfl) ?_
      refine RS_q retB_noPanic rfl rfl rfl rfl (ev_len rfl) ?_
      (first | refine RS_m retB_noPanic rfl rfl rfl rfl (ev_subN (q := 1) rfl rfl (by first | omega | (simp; done) | (simp; omega))) ?_ | refine RS_m retB_noPanic rfl rfl rfl rfl (ev_sub rfl rfl (by first | omega | (simp; done) | (simp; omega))) ?_)
      (first | refine RS_m retB_noPanic rfl rfl rfl rfl (ev_indexAddrN rfl rfl (by first | omega | (simp; done) | (simp; omega))) ?_ | refine RS_m retB_noPanic rfl rfl rfl rfl (ev_indexAddr rfl rfl (by first | omega | (simp; done) | (simp; omega)) (by first | omega | (simp; done) | (simp; omega))) ?_)
      refine RS_m retB_noPanic rfl rfl rfl rfl (ev_fieldAddr rfl) ?_
      refine RS_q retB_noPanic rfl rfl rfl rfl (ev_load rfl (by repeat' first | exact Ld.blk rfl | assumption | apply Ld.skip | apply Ld.app)) ?_
      refine RS_m retB_noPanic rfl rfl rfl rfl (ev_build rfl rfl) ?_
      refine RS_e (RE_eff rfl rfl rfl (eff_box rfl) ?_); rintro _ _ ⟨b20, rfl, rfl⟩; refine ⟨_, fun _ s => s, (by first | ((repeat first | exact fun _ s => s | apply en_keep | apply en_drop | apply en_app) <;> fail) | ((repeat first | exact en_refl | (apply en_blk; focus ((repeat' first | exact Pick.here | apply Pick.skip | apply Pick.app); done); focus rfl) | (apply en_own; focus ((repeat' first | exact Pick.here | apply Pick.skip | apply Pick.app); done); focus rfl) | (apply en_pick; focus ((repeat' first | exact Pick.here | apply Pick.skip | apply Pick.app); done)) | apply en_drop | apply en_app) <;> fail)), ?_⟩
      refine RS_m retB_noPanic rfl rfl rfl rfl (ev_assign rfl) ?_
      refine RS_nil ?_
      (repeat first | refine G_seq ?_ | refine G_skip ?_ | refine G_endblk ?_ | refine G_block ?_ | refine G_exit rfl ?_)
      refine G_region ?_
      refine GO_q rfl rfl (ev_move rfl) ?_
      refine GO_q rfl rfl (ev_len rfl) ?_
      refine GO_q rfl rfl (ev_eql rfl rfl) ?_
      refine GO_nil ?_
      (repeat first | refine G_seq ?_ | refine G_skip ?_ | refine G_endblk ?_ | refine G_block ?_ | refine G_exit rfl ?_)
      refine G_cond_f rfl (decide_eq_false (by omega)) ?_
      (repeat first | refine G_seq ?_ | refine G_skip ?_ | refine G_endblk ?_ | refine G_block ?_ | refine G_exit rfl ?_)
      refine G_region ?_
      refine GO_q rfl rfl (ev_move rfl) ?_
      refine GO_q rfl rfl (ev_len rfl) ?_
      (first | refine GO_q rfl rfl (ev_addN (q := 1) rfl rfl (by first | omega | (simp; done) | (simp; omega))) ?_ | refine GO_q rfl rfl (ev_add rfl rfl (by first | omega | (simp; done) | (simp; omega))) ?_)
      refine GO_q rfl rfl (ev_quoN (q := 2) rfl rfl (by omega) (by omega)) ?_
      rw [hmid]
      refine GO_q rfl rfl (ev_assign rfl) ?_
      refine GO_nil ?_
      (repeat first | refine G_seq ?_ | refine G_skip ?_ | refine G_endblk ?_ | refine G_block ?_ | refine G_exit rfl ?_)
      refine G_draw (.q 0 (.q 1 (.q 2 (.q 3 (.q 5 (.q 6 (.q 7 (.e 4 (.e 8 (.q 9 (.q 10 (.q 11 (.e 12 .nil))))))))))))) (by kernel_rfl) (by kernel_rfl) ?_
      refine RS_m retB_noPanic rfl rfl rfl rfl (ev_move rfl) ?_
      refine RS_m retB_noPanic rfl rfl rfl rfl (ev_move rfl) ?_
      refine RS_m retB_noPanic rfl rfl rfl rfl (ev_move rfl) ?_
      refine RS_q retB_noPanic rfl rfl rfl rfl (ev_sliceH rfl rfl (by first | omega | (simp; done) | (simp; omega))) ?_
      refine RS_m retB_noPanic rfl rfl rfl rfl (ev_move rfl) ?_
      refine RS_m retB_noPanic rfl rfl rfl rfl (ev_move rfl) ?_
      refine RS_q retB_noPanic rfl rfl rfl rfl (ev_sliceL rfl rfl (by first | omega | (simp; done) | (simp; omega)) (by first | omega | (simp; done) | (simp; omega))) ?_
      refine RS_e (RE_eff rfl rfl rfl (eff_call rfl (Ctr.frame [blk b20 85 [.pointer none, .int .i64 pf.x, .int .i64 pg.x, .pointer none, .pointer none], F] i1 (fun _ s => s))) ?_); rintro _ _ ⟨L1, ⟨T0, N0, rfl, o0, rfl, r0⟩, rfl⟩; refine ⟨_, fun _ s => s, (by first | ((repeat first | exact fun _ s => s | apply en_keep | apply en_drop | apply en_app) <;> fail) | ((repeat first | exact en_refl | (apply en_blk; focus ((repeat' first | exact Pick.here | apply Pick.skip | apply Pick.app); done); focus rfl) | (apply en_own; focus ((repeat' first | exact Pick.here | apply Pick.skip | apply Pick.app); done); focus rfl) | (apply en_pick; focus ((repeat' first | exact Pick.here | apply Pick.skip | apply Pick.app); done)) | apply en_drop | apply en_app) <;> fail)), ?_⟩
      refine RS_e (RE_eff rfl rfl rfl (eff_call rfl (Ctr.frame [blk b20 85 [.pointer none, .int .i64 pf.x, .int .i64 pg.x, .pointer none, .pointer none], F] (i2 N0) (fun _ s => s))) ?_); rintro _ _ ⟨L2, ⟨T1, N1, rfl, o1, rfl, r1⟩, rfl⟩; refine ⟨_, fun _ s => s, (by first | ((repeat first | exact fun _ s => s | apply en_keep | apply en_drop | apply en_app) <;> fail) | ((repeat first | exact en_refl | (apply en_blk; focus ((repeat' first | exact Pick.here | apply Pick.skip | apply Pick.app); done); focus rfl) | (apply en_own; focus ((repeat' first | exact Pick.here | apply Pick.skip | apply Pick.app); done); focus rfl) | (apply en_pick; focus ((repeat' first | exact Pick.here | apply Pick.skip | apply Pick.app); done)) | apply en_drop | apply en_app) <;> fail)), ?_⟩
      refine RS_m retB_noPanic rfl rfl rfl rfl (ev_buildA rfl rfl) ?_
      (first | refine RS_m retB_noPanic rfl rfl rfl rfl (ev_nilCheck rfl) ?_ | refine RS_m retB_noPanic rfl rfl rfl rfl (ev_nilCheckF (by simp) rfl) ?_)
      refine RS_m retB_noPanic rfl rfl rfl rfl (ev_fieldAddr rfl) ?_
      refine RS_e (RE_last (by kernel_rfl) rfl rfl rfl (eff_storeN rfl rfl rfl rfl (by repeat' first | exact Upd.here rfl | apply Upd.skip | apply Upd.app)) ?_); rintro _ _ ⟨rfl, rfl⟩
      cases T0 with
      | nil =>
        have e9 : la = [] := o0
        subst e9
        simp at k1; omega
      | node b0 q0 a0 u0 v0 lo0 hi0 =>
        cases T1 with
        | nil =>
          have e9 : lb = [] := o1
          subst e9
          simp at k2; omega
        | node b1 q1 a1 u1 v1 lo1 hi1 =>
          have w0 : Ld (N1 ++ (N0 ++ L)) ⟨b0, 0 + 0, none⟩ (.pointer q0) := (r0.1.at_ (i := 0) rfl).app
          have w1 : Ld (N1 ++ (N0 ++ L)) ⟨b1, 0 + 0, none⟩ (.pointer q1) := r1.1.at_ (i := 0) rfl
          have l0 : a0.es.length ≤ 100000 := by have : a0.es.length = la.length := o0.len; omega
          have l1 : a1.es.length ≤ 100000 := by have : a1.es.length = lb.length := o1.len; omega
          have hj := Join_ctr q0 q1 a0 a1 (N1 ++ (N0 ++ L)) r0.2.1.app r1.2.1 l0 l1
          (repeat first | refine G_seq ?_ | refine G_skip ?_ | refine G_endblk ?_ | refine G_block ?_ | refine G_exit rfl ?_)
          refine G_draw (.q 0 (.q 1 (.q 2 (.q 3 (.q 4 (.q 5 (.q 6 (.q 7 (.q 8 (.q 9 (.q 10 (.q 11 (.q 12 (.q 13 (.q 14 (.q 15 (.q 16 (.e 17 (.q 18 (.q 19 (.e 20 .nil))))))))))))))))))))) (by kernel_rfl) (by kernel_rfl) ?_
          refine RS_m retB_noPanic rfl rfl rfl rfl (ev_move rfl) ?_
          refine RS_m retB_noPanic rfl rfl rfl rfl (ev_move rfl) ?_
          (first | refine RS_m retB_noPanic rfl rfl rfl rfl (ev_nilCheck rfl) ?_ | refine RS_m retB_noPanic rfl rfl rfl rfl (ev_nilCheckF (by simp) rfl) ?_)
          refine RS_m retB_noPanic rfl rfl rfl rfl (ev_fieldAddr rfl) ?_
          refine RS_m retB_noPanic rfl rfl rfl rfl (ev_indexAddrA rfl rfl (by first | omega | (simp; done) | (simp; omega)) (by first | omega | (simp; done) | (simp; omega))) ?_
          refine RS_q retB_noPanic rfl rfl rfl rfl (ev_load rfl (by repeat' first | exact Ld.blk rfl | assumption | apply Ld.skip | apply Ld.app)) ?_
          (first | refine RS_m retB_noPanic rfl rfl rfl rfl (ev_nilCheck rfl) ?_ | refine RS_m retB_noPanic rfl rfl rfl rfl (ev_nilCheckF (by simp) rfl) ?_)
          refine RS_m retB_noPanic rfl rfl rfl rfl (ev_fieldAddr rfl) ?_
          refine RS_q retB_noPanic rfl rfl rfl rfl (ev_load rfl (by repeat' first | exact Ld.blk rfl | assumption | apply Ld.skip | apply Ld.app)) ?_
          refine RS_m retB_noPanic rfl rfl rfl rfl (ev_move rfl) ?_
          (first | refine RS_m retB_noPanic rfl rfl rfl rfl (ev_nilCheck rfl) ?_ | refine RS_m retB_noPanic rfl rfl rfl rfl (ev_nilCheckF (by simp) rfl) ?_)
          refine RS_m retB_noPanic rfl rfl rfl rfl (ev_fieldAddr rfl) ?_
          refine RS_m retB_noPanic rfl rfl rfl rfl (ev_indexAddrA rfl rfl (by first | omega | (simp; done) | (simp; omega)) (by first | omega | (simp; done) | (simp; omega))) ?_
          refine RS_q retB_noPanic rfl rfl rfl rfl (ev_load rfl (by repeat' first | exact Ld.blk rfl | assumption | apply Ld.skip | apply Ld.app)) ?_
          (first | refine RS_m retB_noPanic rfl rfl rfl rfl (ev_nilCheck rfl) ?_ | refine RS_m retB_noPanic rfl rfl rfl rfl (ev_nilCheckF (by simp) rfl) ?_)
          refine RS_m retB_noPanic rfl rfl rfl rfl (ev_fieldAddr rfl) ?_
          refine RS_q retB_noPanic rfl rfl rfl rfl (ev_load rfl (by repeat' first | exact Ld.blk rfl | assumption | apply Ld.skip | apply Ld.app)) ?_
          refine RS_e (RE_eff rfl rfl rfl (eff_call rfl (Ctr.frame [blk b20 85 [.pointer none, .int .i64 pf.x, .int .i64 pg.x, .pointer (some ⟨b0, 0, none⟩), .pointer (some ⟨b1, 0, none⟩)], F] hj (fun _ s => s))) ?_); rintro _ _ ⟨L3, ⟨q, N2, rfl, rfl, hq⟩, rfl⟩; refine ⟨_, fun _ s => s, (by first | ((repeat first | exact fun _ s => s | apply en_keep | apply en_drop | apply en_app) <;> fail) | ((repeat first | exact en_refl | (apply en_blk; focus ((repeat' first | exact Pick.here | apply Pick.skip | apply Pick.app); done); focus rfl) | (apply en_own; focus ((repeat' first | exact Pick.here | apply Pick.skip | apply Pick.app); done); focus rfl) | (apply en_pick; focus ((repeat' first | exact Pick.here | apply Pick.skip | apply Pick.app); done)) | apply en_drop | apply en_app) <;> fail)), ?_⟩
          (first | refine RS_m retB_noPanic rfl rfl rfl rfl (ev_nilCheck rfl) ?_ | refine RS_m retB_noPanic rfl rfl rfl rfl (ev_nilCheckF (by simp) rfl) ?_)
          refine RS_m retB_noPanic rfl rfl rfl rfl (ev_fieldAddr rfl) ?_
          refine RS_e (RE_last (by kernel_rfl) rfl rfl rfl (eff_store rfl rfl rfl (by repeat' first | exact Upd.here rfl | apply Upd.skip | apply Upd.app)) ?_); rintro _ _ ⟨rfl, rfl⟩
          (repeat first | refine G_seq ?_ | refine G_skip ?_ | refine G_endblk ?_ | refine G_block ?_ | refine G_exit rfl ?_)
          refine G_region ?_
          refine GO_q rfl rfl (ev_move rfl) ?_
          refine GO_q rfl rfl (ev_assign rfl) ?_
          refine GO_nil ?_
          (repeat first | refine G_seq ?_ | refine G_skip ?_ | refine G_endblk ?_ | refine G_block ?_ | refine G_exit rfl ?_)
          have e8 : (blk b20 85 [.pointer q, .int .i64 pf.x, .int .i64 pg.x, .pointer (some ⟨b0, 0, none⟩), .pointer (some ⟨b1, 0, none⟩)] :: (N2 ++ (N1 ++ N0))) ++ L = blk b20 85 [.pointer q, .int .i64 pf.x, .int .i64 pg.x, .pointer (some ⟨b0, 0, none⟩), .pointer (some ⟨b1, 0, none⟩)] :: (N2 ++ (N1 ++ (N0 ++ L))) := by simp
          refine G_ret (L' := (blk b20 85 [.pointer q, .int .i64 pf.x, .int .i64 pg.x, .pointer (some ⟨b0, 0, none⟩), .pointer (some ⟨b1, 0, none⟩)] :: (N2 ++ (N1 ++ N0))) ++ L) rfl (.tmp rfl .nil) (by rw [e8]; exact fun _ s => s.swap) ⟨.node b20 q (join a0 a1) pf.x pg.x (.node b0 q0 a0 u0 v0 lo0 hi0) (.node b1 q1 a1 u1 v1 lo1 hi1), _, rfl, hof _ _ _ _ _ o0 o1 rfl, rfl, ?_⟩
          rw [e8]
          exact ⟨LdN.blk rfl, hq.skip, r0.app.app.skip, r1.app.skip⟩
end Go.Proofs.YtejcamnnfmphkaaGreat
/- A tree of lists that lead into one another: levels, and what is looked at level by level (the plain part). -/
namespace Go.Proofs.YtejcamnnfmphkaaGreat
set_option linter.unusedVariables false
set_option linter.unusedSimpArgs false

def RT.lv : RT → Nat
  | .nil => 0
  | .node _ _ _ _ _ lo hi => max lo.lv hi.lv + 1
theorem RT.of.lv : ∀ {T : RT} {l : List Pt} (k : Nat), T.of l → l.length ≤ 2 ^ k → T.lv ≤ k + 1
  | .nil, _, k, _, _ => by simp only [RT.lv]; omega
  | .node _ _ _ _ _ lo hi, l, k, ⟨_, _, h⟩, hk => by
    rcases h with ⟨p, rfl, rfl, rfl, _⟩ | ⟨h1, h2, h3, _⟩
    · simp only [RT.lv]; omega
    · cases k with
      | zero => simp at hk; omega
      | succ k =>
        have e : 2 ^ (k + 1) = 2 ^ k + 2 ^ k := by rw [Nat.pow_succ]; omega
        have a := h2.lv k (by rw [List.length_take]; omega)
        have b := h3.lv k (by rw [List.length_drop]; omega)
        simp only [RT.lv]; omega
/-- Nodes from left to right, from some X on. -/
def Chn : Int → List RT → Prop
  | _, [] => True
  | m, x :: xs => ∃ l m', x.of l ∧ AscO Pt.less l ∧ m ≤ m' ∧ (∀ p ∈ l, m ≤ p.x ∧ p.x ≤ m') ∧ Chn m' xs
theorem Chn.mono : ∀ {xs : List RT} {m n : Int}, Chn m xs → n ≤ m → Chn n xs
  | [], _, _, _, _ => trivial
  | x :: xs, m, n, ⟨l, m', h1, h2, h3, h4, h5⟩, h => ⟨l, m', h1, h2, by omega, fun p hp => ⟨by have := (h4 p hp).1; omega, (h4 p hp).2⟩, h5⟩
theorem Chn.app : ∀ {xs ys : List RT} {m : Int}, Chn m xs → (∀ k, m ≤ k → ∃ n, k ≤ n) → (∀ n, m ≤ n → (∀ x ∈ xs, ∀ l, x.of l → ∀ p ∈ l, p.x ≤ n) → Chn n ys) → Chn m (xs ++ ys)
  | [], ys, m, _, _, h => h m (Int.le_refl _) (by simp)
  | x :: xs, ys, m, ⟨l, m', h1, h2, h3, h4, h5⟩, hk, h => by
    refine ⟨l, m', h1, h2, h3, h4, h5.app (fun k _ => ⟨k, Int.le_refl _⟩) fun n hn hx => h n (by omega) fun y hy l' hl' p hp => ?_⟩
    rcases List.mem_cons.1 hy with rfl | hy
    · have hp' : p ∈ l := (h1.perm.symm.trans hl'.perm).mem_iff.2 hp
      have := (h4 p hp').2
      omega
    · exact hx y hy l' hl' p hp
def nxtR (b : Bx) (xs : List RT) : List RT := xs.flatMap (RT.nxt b)
def idsR (b : Bx) (xs : List RT) : List Int := xs.flatMap (RT.ids b)
/-- Neither all nor nothing. -/
def RT.mid (b : Bx) (x : RT) : Bool := !x.out b && !x.ins b
def RT.m1 (b : Bx) : RT → Bool
  | .nil => false
  | .node _ _ _ u v _ _ => decide (u < b.x1 ∧ b.x1 ≤ v)
def RT.m2 (b : Bx) : RT → Bool
  | .nil => false
  | .node _ _ _ u v _ _ => decide (u ≤ b.x2 ∧ b.x2 < v)
theorem RT.mid_or (b : Bx) (x : RT) (h : x.mid b = true) : x.m1 b = true ∨ x.m2 b = true := by
  cases x with
  | nil => simp [RT.mid, RT.out] at h
  | node c q a u v lo hi =>
    simp only [RT.mid, RT.out, RT.ins, RT.m1, RT.m2, Bool.and_eq_true, Bool.not_eq_true', decide_eq_false_iff_not, decide_eq_true_eq] at *
    omega
theorem RT.nxt_len (b : Bx) (x : RT) : (x.nxt b).length = if x.mid b then 2 else 0 := by
  cases x with
  | nil => simp [RT.nxt, RT.mid, RT.out]
  | node c q a u v lo hi =>
    unfold RT.nxt RT.mid
    by_cases h1 : (RT.node c q a u v lo hi).out b = true
    · simp [h1]
    · by_cases h2 : (RT.node c q a u v lo hi).ins b = true
      · simp [h1, h2]
      · simp [h1, h2]
theorem nxtR_len (b : Bx) : ∀ xs : List RT, (nxtR b xs).length = 2 * xs.countP (RT.mid b)
  | [] => rfl
  | x :: xs => by
    have := nxtR_len b xs
    unfold nxtR at *
    rw [List.flatMap_cons, List.length_append, this, x.nxt_len, List.countP_cons]
    split <;> omega
theorem RT.of.ends {c : Nat} {q : Option Addr} {a : Arr} {u v : Int} {lo hi : RT} {l : List Pt} (h : (RT.node c q a u v lo hi).of l) : (∃ p ∈ l, u = p.x) ∧ ∃ p ∈ l, v = p.x := by
  obtain ⟨⟨f, hf, e1⟩, ⟨g, hg, e2⟩, _⟩ := h
  exact ⟨⟨f, List.mem_of_getElem? hf, e1⟩, ⟨g, List.mem_of_getElem? hg, e2⟩⟩
theorem Chn.m1 (b : Bx) : ∀ {xs : List RT} {m : Int}, Chn m xs → xs.countP (RT.m1 b) ≤ 1 ∧ (b.x1 ≤ m → xs.countP (RT.m1 b) = 0)
  | [], _, _ => ⟨by simp, fun _ => rfl⟩
  | x :: xs, m, ⟨l, m', h1, h2, h3, h4, h5⟩ => by
    obtain ⟨i1, i2⟩ := h5.m1 b
    rw [List.countP_cons]
    cases x with
    | nil => simp only [RT.m1]; exact ⟨by simpa using i1, fun h => by simpa using i2 (by omega)⟩
    | node c q a u v lo hi =>
      obtain ⟨⟨pu, hu, eu⟩, ⟨pv, hv, ev⟩⟩ := h1.ends
      have a1 := h4 pu hu
      have a2 := h4 pv hv
      by_cases hm : (RT.node c q a u v lo hi).m1 b = true
      · rw [if_pos hm]
        simp only [RT.m1, decide_eq_true_eq] at hm
        have := i2 (by omega)
        exact ⟨by omega, fun h => by omega⟩
      · rw [if_neg hm]
        exact ⟨by omega, fun h => by have := i2 (by omega); omega⟩
theorem Chn.m2 (b : Bx) : ∀ {xs : List RT} {m : Int}, Chn m xs → xs.countP (RT.m2 b) ≤ 1 ∧ (b.x2 < m → xs.countP (RT.m2 b) = 0)
  | [], _, _ => ⟨by simp, fun _ => rfl⟩
  | x :: xs, m, ⟨l, m', h1, h2, h3, h4, h5⟩ => by
    obtain ⟨i1, i2⟩ := h5.m2 b
    rw [List.countP_cons]
    cases x with
    | nil => simp only [RT.m2]; exact ⟨by simpa using i1, fun h => by simpa using i2 (by omega)⟩
    | node c q a u v lo hi =>
      obtain ⟨⟨pu, hu, eu⟩, ⟨pv, hv, ev⟩⟩ := h1.ends
      have a1 := h4 pu hu
      have a2 := h4 pv hv
      by_cases hm : (RT.node c q a u v lo hi).m2 b = true
      · rw [if_pos hm]
        simp only [RT.m2, decide_eq_true_eq] at hm
        have := i2 (by omega)
        exact ⟨by omega, fun h => by omega⟩
      · rw [if_neg hm]
        exact ⟨by omega, fun h => by have := i2 (by omega); omega⟩
theorem countP_or {α : Type} (p q r : α → Bool) (h : ∀ x, p x = true → q x = true ∨ r x = true) : ∀ l : List α, l.countP p ≤ l.countP q + l.countP r
  | [] => by simp
  | x :: l => by
    have := countP_or p q r h l
    rw [List.countP_cons, List.countP_cons, List.countP_cons]
    have := h x
    by_cases h1 : p x = true
    · rcases this h1 with h2 | h2
      · simp only [h1, h2, if_true]; split <;> omega
      · simp only [h1, h2, if_true]; split <;> omega
    · simp only [h1]; split <;> split <;> simp_all <;> omega
theorem Chn.four {b : Bx} {xs : List RT} {m : Int} (h : Chn m xs) : (nxtR b xs).length ≤ 4 := by
  rw [nxtR_len]
  have := countP_or _ _ _ (RT.mid_or b) xs
  have := (h.m1 b).1
  have := (h.m2 b).1
  omega
theorem Chn.nxt (b : Bx) : ∀ {xs : List RT} {m : Int}, Chn m xs → Chn m (nxtR b xs)
  | [], _, _ => trivial
  | x :: xs, m, ⟨l, m', h1, h2, h3, h4, h5⟩ => by
    have ih := h5.nxt b
    show Chn m ((x :: xs).flatMap (RT.nxt b))
    rw [List.flatMap_cons]
    cases x with
    | nil => rw [show RT.nxt b RT.nil = [] by simp [RT.nxt, RT.out]]; exact ih.mono h3
    | node c q a u v lo hi =>
      by_cases c1 : (RT.node c q a u v lo hi).out b = true
      · rw [show RT.nxt b (RT.node c q a u v lo hi) = [] by simp [RT.nxt, c1]]; exact ih.mono h3
      by_cases c2 : (RT.node c q a u v lo hi).ins b = true
      · rw [show RT.nxt b (RT.node c q a u v lo hi) = [] by simp [RT.nxt, c2]]; exact ih.mono h3
      rw [show RT.nxt b (RT.node c q a u v lo hi) = [lo, hi] by simp [RT.nxt, c1, c2]]
      obtain ⟨⟨pf, hf, e1⟩, ⟨pg, hg, e2⟩, hh⟩ := h1
      rcases hh with ⟨p, rfl, rfl, rfl, rfl⟩ | ⟨g1, g2, g3, rfl⟩
      · exfalso
        simp only [RT.out, RT.ins, decide_eq_true_eq] at c1 c2
        simp at hf hg
        subst hf hg
        omega
      · have hk : (l.length + 1) / 2 - 1 < l.length := by omega
        have hgk : l[(l.length + 1) / 2 - 1]? = some l[(l.length + 1) / 2 - 1] := List.getElem?_eq_getElem hk
        have hmk := h4 _ (List.getElem_mem hk)
        generalize l[(l.length + 1) / 2 - 1] = pk at *
        show Chn m (lo :: hi :: nxtR b xs)
        refine ⟨_, pk.x, g2, h2.sub (List.take_sublist _ _), hmk.1, fun p hp => ⟨(h4 p (List.mem_of_mem_take hp)).1, ?_⟩, _, m', g3, h2.sub (List.drop_sublist _ _), hmk.2, fun p hp => ⟨?_, (h4 p (List.mem_of_mem_drop hp)).2⟩, ih⟩
        · obtain ⟨i, hi', rfl⟩ := List.mem_iff_getElem.1 hp
          rw [List.length_take] at hi'
          rw [List.getElem_take]
          exact asc_x h2 (by omega) (List.getElem?_eq_getElem (by omega)) hgk
        · obtain ⟨i, hi', rfl⟩ := List.mem_iff_getElem.1 hp
          rw [List.length_drop] at hi'
          rw [List.getElem_drop]
          exact asc_x h2 (by omega) hgk (List.getElem?_eq_getElem (by omega))
theorem RT.nxt_lv (b : Bx) (x : RT) (k : Nat) (h : x.lv ≤ k + 1) : ∀ y ∈ x.nxt b, y.lv ≤ k := fun y hy => by
  cases x with
  | nil => simp [RT.nxt, RT.out] at hy
  | node c q a u v lo hi =>
    simp only [RT.lv] at h
    unfold RT.nxt at hy
    split at hy
    · cases hy
    · split at hy
      · cases hy
      · simp at hy
        rcases hy with rfl | rfl <;> omega
theorem nxtR_lv (b : Bx) (xs : List RT) (k : Nat) (h : ∀ x ∈ xs, x.lv ≤ k + 1) : ∀ y ∈ nxtR b xs, y.lv ≤ k := fun y hy => by
  obtain ⟨x, hx, hy⟩ := List.mem_flatMap.1 hy
  exact x.nxt_lv b k (h x hx) y hy
theorem nxtR_zero (b : Bx) (xs : List RT) (h : ∀ x ∈ xs, x.lv ≤ 0) : nxtR b xs = [] := by
  refine List.eq_nil_iff_forall_not_mem.2 fun y hy => ?_
  obtain ⟨x, hx, hy⟩ := List.mem_flatMap.1 hy
  have := h x hx
  cases x with
  | nil => simp [RT.nxt, RT.out] at hy
  | node => simp only [RT.lv] at this; omega
/-- What is found level by level. -/
def lvl (b : Bx) : Nat → List RT → List Int
  | 0, _ => []
  | k + 1, xs => idsR b xs ++ lvl b k (nxtR b xs)
end Go.Proofs.YtejcamnnfmphkaaGreat
/- A tree of lists that lead into one another: parts, and looking at them. -/
namespace Go.Proofs.YtejcamnnfmphkaaGreat
attribute [local irreducible] sat
set_option linter.unusedVariables false
set_option linter.unusedSimpArgs false
set_option maxRecDepth 100000

instance encPR : Enc PR := ⟨3, fun x => [.pointer x.T.addr, .int .i64 (x.f : Nat), .int .i64 (x.t : Nat)], fun _ => rfl, fun _ v h => by simp at h; rcases h with rfl | rfl | rfl <;> rfl⟩
theorem psize_ctr (p : Option Addr) (f t : Nat) (L : List HP) (h1 : f ≤ 1000000) (h2 : t ≤ 1000000) : Ctr Tryz.prog 92 #[.agg #[.pointer p, .int .i64 (f : Nat), .int .i64 (t : Nat)]] L fun v L' => v = .int .i64 ((t - f : Nat) : Int) ∧ L' = L := by
  refine Ctr_of (fn := Tryz.f92) (n := 9) Tryz.func92 rfl rfl rfl ?_
  intro g F
  (repeat first | refine G_seq ?_ | refine G_skip ?_ | refine G_endblk ?_ | refine G_block ?_ | refine G_exit rfl ?_)
  refine G_region ?_
  refine GO_eff rfl rfl (eff_box rfl) ?_; rintro _ _ ⟨b1, rfl, rfl⟩
  refine GO_q rfl rfl (ev_assign rfl) ?_
  refine GO_nil ?_
  (repeat first | refine G_seq ?_ | refine G_skip ?_ | refine G_endblk ?_ | refine G_block ?_ | refine G_exit rfl ?_)
  refine G_region ?_
  refine GO_q rfl rfl (ev_fieldAddr rfl) ?_
  refine GO_q rfl rfl (ev_load rfl (by repeat' first | exact Ld.blk rfl | assumption | apply Ld.skip | apply Ld.app)) ?_
  refine GO_q rfl rfl (ev_fieldAddr rfl) ?_
  refine GO_q rfl rfl (ev_load rfl (by repeat' first | exact Ld.blk rfl | assumption | apply Ld.skip | apply Ld.app)) ?_
  (first | refine GO_q rfl rfl (ev_subN rfl rfl (by first | omega | (simp; done) | (simp; omega))) ?_ | refine GO_q rfl rfl (ev_sub rfl rfl (by first | omega | (simp; done) | (simp; omega))) ?_)
  refine GO_q rfl rfl (ev_max rfl rfl) ?_
  refine GO_q rfl rfl (ev_assign rfl) ?_
  refine GO_nil ?_
  (repeat first | refine G_seq ?_ | refine G_skip ?_ | refine G_endblk ?_ | refine G_block ?_ | refine G_exit rfl ?_)
  refine G_ret rfl (.tmp rfl .nil) (by (repeat first | exact fun _ s => s | apply en_keep | apply en_drop | apply en_app) <;> fail) ⟨congrArg (Value.int .i64) (by omega), rfl⟩
theorem half_ctr (b : Nat) (q : Option Addr) (a : Arr) (u v : Int) (lo hi : RT) (f t : Nat) (high : Bool) (L : List HP) (h : RIn L (.node b q a u v lo hi)) (hm : a.es.length ≤ 100000) (h1 : f ≤ 1000000) (h2 : t ≤ 1000000) :
    Ctr Tryz.prog 94 #[.agg #[.pointer (some ⟨b, 0, none⟩), .int .i64 (f : Nat), .int .i64 (t : Nat)], .bool high] L fun r L' => r = .agg #[.pointer (if high then hi.addr else lo.addr), .int .i64 (lead a f high), .int .i64 (lead a t high)] ∧ L' = L := by
  obtain ⟨z, ha, _, _⟩ := h
  have z0 : Ld L ⟨b, 0 + 0, none⟩ (.pointer q) := z.at_ (i := 0) rfl
  cases high with
  | true =>
    have z4 : Ld L ⟨b, 0 + 3 + 1 * 1, none⟩ (.pointer hi.addr) := z.at_ (i := 4) rfl
    refine Ctr_of (fn := Tryz.f94) (n := 33) Tryz.func94 rfl rfl rfl ?_
    intro g F
    (repeat first | refine G_seq ?_ | refine G_skip ?_ | refine G_endblk ?_ | refine G_block ?_ | refine G_exit rfl ?_)
    refine G_region ?_
    refine GO_eff rfl rfl (eff_box rfl) ?_; rintro _ _ ⟨b2, rfl, rfl⟩
    refine GO_eff rfl rfl eff_alloc ?_; rintro _ _ ⟨b4, rfl, rfl⟩
    refine GO_nil ?_
    (repeat first | refine G_seq ?_ | refine G_skip ?_ | refine G_endblk ?_ | refine G_block ?_ | refine G_exit rfl ?_)
    refine G_region ?_
    refine GO_q rfl rfl (ev_assign rfl) ?_
    refine GO_nil ?_
    (repeat first | refine G_seq ?_ | refine G_skip ?_ | refine G_endblk ?_ | refine G_block ?_ | refine G_exit rfl ?_)
    refine G_region ?_
    refine GO_q rfl rfl (ev_move rfl) ?_
    refine GO_nil ?_
    (repeat first | refine G_seq ?_ | refine G_skip ?_ | refine G_endblk ?_ | refine G_block ?_ | refine G_exit rfl ?_)
    refine G_cond_t rfl rfl ?_
    (repeat first | refine G_seq ?_ | refine G_skip ?_ | refine G_endblk ?_ | refine G_block ?_ | refine G_exit rfl ?_)
    refine G_region ?_
    refine GO_q rfl rfl (ev_assign rfl) ?_
    refine GO_nil ?_
    (repeat first | refine G_seq ?_ | refine G_skip ?_ | refine G_endblk ?_ | refine G_block ?_ | refine G_exit rfl ?_)
    refine G_draw (.q 0 (.q 1 (.q 2 (.q 3 (.q 4 (.q 5 (.q 6 (.q 7 (.q 8 (.q 9 (.q 10 (.q 11 (.q 12 (.q 13 (.q 14 (.q 16 (.q 17 (.q 18 (.q 19 (.q 20 (.q 21 (.q 22 (.q 23 (.e 15 (.e 24 (.q 25 (.e 26 .nil))))))))))))))))))))))))))) (by kernel_rfl) (by kernel_rfl) ?_
    refine RS_m retB_noPanic rfl rfl rfl rfl (ev_fieldAddr rfl) ?_
    refine RS_q retB_noPanic rfl rfl rfl rfl (ev_load rfl (by repeat' first | exact Ld.blk rfl | assumption | apply Ld.skip | apply Ld.app)) ?_
    refine RS_m retB_noPanic rfl rfl rfl rfl (ev_move rfl) ?_
    (first | refine RS_m retB_noPanic rfl rfl rfl rfl (ev_nilCheck rfl) ?_ | refine RS_m retB_noPanic rfl rfl rfl rfl (ev_nilCheckF (by simp) rfl) ?_)
    refine RS_m retB_noPanic rfl rfl rfl rfl (ev_fieldAddr rfl) ?_
    refine RS_m retB_noPanic rfl rfl rfl rfl (ev_indexAddrA rfl rfl (by first | omega | (simp; done) | (simp; omega)) (by first | omega | (simp; done) | (simp; omega))) ?_
    refine RS_q retB_noPanic rfl rfl rfl rfl (ev_load rfl (by repeat' first | exact Ld.blk rfl | assumption | apply Ld.skip | apply Ld.app)) ?_
    refine RS_m retB_noPanic rfl rfl rfl rfl (ev_fieldAddr rfl) ?_
    refine RS_q retB_noPanic rfl rfl rfl rfl (ev_load rfl (by repeat' first | exact Ld.blk rfl | assumption | apply Ld.skip | apply Ld.app)) ?_
    (first | refine RS_m retB_noPanic rfl rfl rfl rfl (ev_nilCheck rfl) ?_ | refine RS_m retB_noPanic rfl rfl rfl rfl (ev_nilCheckF (by simp) rfl) ?_)
    refine RS_m retB_noPanic rfl rfl rfl rfl (ev_fieldAddr rfl) ?_
    refine RS_q retB_noPanic rfl rfl rfl rfl (ev_load rfl (by repeat' first | exact Ld.blk rfl | assumption | apply Ld.skip | apply Ld.app)) ?_
    refine RS_m retB_noPanic rfl rfl rfl rfl (ev_fieldAddr rfl) ?_
    refine RS_q retB_noPanic rfl rfl rfl rfl (ev_load rfl (by repeat' first | exact Ld.blk rfl | assumption | apply Ld.skip | apply Ld.app)) ?_
    refine RS_m retB_noPanic rfl rfl rfl rfl (ev_move rfl) ?_
    refine RS_m retB_noPanic rfl rfl rfl rfl (ev_fieldAddr rfl) ?_
    refine RS_q retB_noPanic rfl rfl rfl rfl (ev_load rfl (by repeat' first | exact Ld.blk rfl | assumption | apply Ld.skip | apply Ld.app)) ?_
    (first | refine RS_m retB_noPanic rfl rfl rfl rfl (ev_nilCheck rfl) ?_ | refine RS_m retB_noPanic rfl rfl rfl rfl (ev_nilCheckF (by simp) rfl) ?_)
    refine RS_m retB_noPanic rfl rfl rfl rfl (ev_fieldAddr rfl) ?_
    refine RS_q retB_noPanic rfl rfl rfl rfl (ev_load rfl (by repeat' first | exact Ld.blk rfl | assumption | apply Ld.skip | apply Ld.app)) ?_
    refine RS_m retB_noPanic rfl rfl rfl rfl (ev_fieldAddr rfl) ?_
    refine RS_q retB_noPanic rfl rfl rfl rfl (ev_load rfl (by repeat' first | exact Ld.blk rfl | assumption | apply Ld.skip | apply Ld.app)) ?_
    refine RS_m retB_noPanic rfl rfl rfl rfl (ev_move rfl) ?_
    refine RS_e (RE_eff rfl rfl rfl (eff_call rfl (Lead_ctr q a f true _ (by repeat' first | exact ha | apply ArrIn.skip) hm (by omega))) ?_); rintro _ _ ⟨rfl, rfl⟩; refine ⟨_, fun _ s => s, (by first | ((repeat first | exact fun _ s => s | apply en_keep | apply en_drop | apply en_app) <;> fail) | ((repeat first | exact en_refl | (apply en_blk; focus ((repeat' first | exact Pick.here | apply Pick.skip | apply Pick.app); done); focus rfl) | (apply en_own; focus ((repeat' first | exact Pick.here | apply Pick.skip | apply Pick.app); done); focus rfl) | (apply en_pick; focus ((repeat' first | exact Pick.here | apply Pick.skip | apply Pick.app); done)) | apply en_drop | apply en_app) <;> fail)), ?_⟩
    refine RS_e (RE_eff rfl rfl rfl (eff_call rfl (Lead_ctr q a t true _ (by repeat' first | exact ha | apply ArrIn.skip) hm (by omega))) ?_); rintro _ _ ⟨rfl, rfl⟩; refine ⟨_, fun _ s => s, (by first | ((repeat first | exact fun _ s => s | apply en_keep | apply en_drop | apply en_app) <;> fail) | ((repeat first | exact en_refl | (apply en_blk; focus ((repeat' first | exact Pick.here | apply Pick.skip | apply Pick.app); done); focus rfl) | (apply en_own; focus ((repeat' first | exact Pick.here | apply Pick.skip | apply Pick.app); done); focus rfl) | (apply en_pick; focus ((repeat' first | exact Pick.here | apply Pick.skip | apply Pick.app); done)) | apply en_drop | apply en_app) <;> fail)), ?_⟩
    refine RS_m retB_noPanic rfl rfl rfl rfl (ev_build rfl rfl) ?_
    refine RS_e (RE_last (by kernel_rfl) rfl rfl rfl (eff_storeN rfl rfl rfl rfl (by repeat' first | exact Upd.here rfl | apply Upd.skip | apply Upd.app)) ?_); rintro _ _ ⟨rfl, rfl⟩
    (repeat first | refine G_seq ?_ | refine G_skip ?_ | refine G_endblk ?_ | refine G_block ?_ | refine G_exit rfl ?_)
    refine G_ret rfl (.cell rfl (loadN_run (by repeat' first | exact LdN.blk rfl | assumption | apply LdN.skip | apply LdN.app)) .nil) (by (repeat first | exact fun _ s => s | apply en_keep | apply en_drop | apply en_app) <;> fail) ⟨rfl, rfl⟩
  | false =>
    have z4 : Ld L ⟨b, 0 + 3 + 0 * 1, none⟩ (.pointer lo.addr) := z.at_ (i := 3) rfl
    refine Ctr_of (fn := Tryz.f94) (n := 33) Tryz.func94 rfl rfl rfl ?_
    intro g F
    (repeat first | refine G_seq ?_ | refine G_skip ?_ | refine G_endblk ?_ | refine G_block ?_ | refine G_exit rfl ?_)
    refine G_region ?_
    refine GO_eff rfl rfl (eff_box rfl) ?_; rintro _ _ ⟨b2, rfl, rfl⟩
    refine GO_eff rfl rfl eff_alloc ?_; rintro _ _ ⟨b4, rfl, rfl⟩
    refine GO_nil ?_
    (repeat first | refine G_seq ?_ | refine G_skip ?_ | refine G_endblk ?_ | refine G_block ?_ | refine G_exit rfl ?_)
    refine G_region ?_
    refine GO_q rfl rfl (ev_assign rfl) ?_
    refine GO_nil ?_
    (repeat first | refine G_seq ?_ | refine G_skip ?_ | refine G_endblk ?_ | refine G_block ?_ | refine G_exit rfl ?_)
    refine G_region ?_
    refine GO_q rfl rfl (ev_move rfl) ?_
    refine GO_nil ?_
    (repeat first | refine G_seq ?_ | refine G_skip ?_ | refine G_endblk ?_ | refine G_block ?_ | refine G_exit rfl ?_)
    refine G_cond_f rfl rfl ?_
    (repeat first | refine G_seq ?_ | refine G_skip ?_ | refine G_endblk ?_ | refine G_block ?_ | refine G_exit rfl ?_)
    refine G_draw (.q 0 (.q 1 (.q 2 (.q 3 (.q 4 (.q 5 (.q 6 (.q 7 (.q 8 (.q 9 (.q 10 (.q 11 (.q 12 (.q 13 (.q 14 (.q 16 (.q 17 (.q 18 (.q 19 (.q 20 (.q 21 (.q 22 (.q 23 (.e 15 (.e 24 (.q 25 (.e 26 .nil))))))))))))))))))))))))))) (by kernel_rfl) (by kernel_rfl) ?_
    refine RS_m retB_noPanic rfl rfl rfl rfl (ev_fieldAddr rfl) ?_
    refine RS_q retB_noPanic rfl rfl rfl rfl (ev_load rfl (by repeat' first | exact Ld.blk rfl | assumption | apply Ld.skip | apply Ld.app)) ?_
    refine RS_m retB_noPanic rfl rfl rfl rfl (ev_move rfl) ?_
    (first | refine RS_m retB_noPanic rfl rfl rfl rfl (ev_nilCheck rfl) ?_ | refine RS_m retB_noPanic rfl rfl rfl rfl (ev_nilCheckF (by simp) rfl) ?_)
    refine RS_m retB_noPanic rfl rfl rfl rfl (ev_fieldAddr rfl) ?_
    refine RS_m retB_noPanic rfl rfl rfl rfl (ev_indexAddrA rfl rfl (by first | omega | (simp; done) | (simp; omega)) (by first | omega | (simp; done) | (simp; omega))) ?_
    refine RS_q retB_noPanic rfl rfl rfl rfl (ev_load rfl (by repeat' first | exact Ld.blk rfl | assumption | apply Ld.skip | apply Ld.app)) ?_
    refine RS_m retB_noPanic rfl rfl rfl rfl (ev_fieldAddr rfl) ?_
    refine RS_q retB_noPanic rfl rfl rfl rfl (ev_load rfl (by repeat' first | exact Ld.blk rfl | assumption | apply Ld.skip | apply Ld.app)) ?_
    (first | refine RS_m retB_noPanic rfl rfl rfl rfl (ev_nilCheck rfl) ?_ | refine RS_m retB_noPanic rfl rfl rfl rfl (ev_nilCheckF (by simp) rfl) ?_)
    refine RS_m retB_noPanic rfl rfl rfl rfl (ev_fieldAddr rfl) ?_
    refine RS_q retB_noPanic rfl rfl rfl rfl (ev_load rfl (by repeat' first | exact Ld.blk rfl | assumption | apply Ld.skip | apply Ld.app)) ?_
    refine RS_m retB_noPanic rfl rfl rfl rfl (ev_fieldAddr rfl) ?_
    refine RS_q retB_noPanic rfl rfl rfl rfl (ev_load rfl (by repeat' first | exact Ld.blk rfl | assumption | apply Ld.skip | apply Ld.app)) ?_
    refine RS_m retB_noPanic rfl rfl rfl rfl (ev_move rfl) ?_
    refine RS_m retB_noPanic rfl rfl rfl rfl (ev_fieldAddr rfl) ?_
    refine RS_q retB_noPanic rfl rfl rfl rfl (ev_load rfl (by repeat' first | exact Ld.blk rfl | assumption | apply Ld.skip | apply Ld.app)) ?_
    (first | refine RS_m retB_noPanic rfl rfl rfl rfl (ev_nilCheck rfl) ?_ | refine RS_m retB_noPanic rfl rfl rfl rfl (ev_nilCheckF (by simp) rfl) ?_)
    refine RS_m retB_noPanic rfl rfl rfl rfl (ev_fieldAddr rfl) ?_
    refine RS_q retB_noPanic rfl rfl rfl rfl (ev_load rfl (by repeat' first | exact Ld.blk rfl | assumption | apply Ld.skip | apply Ld.app)) ?_
    refine RS_m retB_noPanic rfl rfl rfl rfl (ev_fieldAddr rfl) ?_
    refine RS_q retB_noPanic rfl rfl rfl rfl (ev_load rfl (by repeat' first | exact Ld.blk rfl | assumption | apply Ld.skip | apply Ld.app)) ?_
    refine RS_m retB_noPanic rfl rfl rfl rfl (ev_move rfl) ?_
    refine RS_e (RE_eff rfl rfl rfl (eff_call rfl (Lead_ctr q a f false _ (by repeat' first | exact ha | apply ArrIn.skip) hm (by omega))) ?_); rintro _ _ ⟨rfl, rfl⟩; refine ⟨_, fun _ s => s, (by first | ((repeat first | exact fun _ s => s | apply en_keep | apply en_drop | apply en_app) <;> fail) | ((repeat first | exact en_refl | (apply en_blk; focus ((repeat' first | exact Pick.here | apply Pick.skip | apply Pick.app); done); focus rfl) | (apply en_own; focus ((repeat' first | exact Pick.here | apply Pick.skip | apply Pick.app); done); focus rfl) | (apply en_pick; focus ((repeat' first | exact Pick.here | apply Pick.skip | apply Pick.app); done)) | apply en_drop | apply en_app) <;> fail)), ?_⟩
    refine RS_e (RE_eff rfl rfl rfl (eff_call rfl (Lead_ctr q a t false _ (by repeat' first | exact ha | apply ArrIn.skip) hm (by omega))) ?_); rintro _ _ ⟨rfl, rfl⟩; refine ⟨_, fun _ s => s, (by first | ((repeat first | exact fun _ s => s | apply en_keep | apply en_drop | apply en_app) <;> fail) | ((repeat first | exact en_refl | (apply en_blk; focus ((repeat' first | exact Pick.here | apply Pick.skip | apply Pick.app); done); focus rfl) | (apply en_own; focus ((repeat' first | exact Pick.here | apply Pick.skip | apply Pick.app); done); focus rfl) | (apply en_pick; focus ((repeat' first | exact Pick.here | apply Pick.skip | apply Pick.app); done)) | apply en_drop | apply en_app) <;> fail)), ?_⟩
    refine RS_m retB_noPanic rfl rfl rfl rfl (ev_build rfl rfl) ?_
    refine RS_e (RE_last (by kernel_rfl) rfl rfl rfl (eff_storeN rfl rfl rfl rfl (by repeat' first | exact Upd.here rfl | apply Upd.skip | apply Upd.app)) ?_); rintro _ _ ⟨rfl, rfl⟩
    (repeat first | refine G_seq ?_ | refine G_skip ?_ | refine G_endblk ?_ | refine G_block ?_ | refine G_exit rfl ?_)
    refine G_ret rfl (.cell rfl (loadN_run (by repeat' first | exact LdN.blk rfl | assumption | apply LdN.skip | apply LdN.app)) .nil) (by (repeat first | exact fun _ s => s | apply en_keep | apply en_drop | apply en_app) <;> fail) ⟨rfl, rfl⟩
end Go.Proofs.YtejcamnnfmphkaaGreat
/- A tree of lists that lead into one another: Look. -/
namespace Go.Proofs.YtejcamnnfmphkaaGreat
attribute [local irreducible] sat
set_option linter.unusedVariables false
set_option linter.unusedSimpArgs false
set_option maxRecDepth 100000

def partsR (b : Bx) (xs : List RT) : List PR := xs.map (prOf b)
/-- What a look leaves. -/
def LkR (b : Bx) (T : RT) (L : List HP) (r : Value) (L' : List HP) : Prop := ∃ A1 c1 A2 c2 N, r = .tuple #[.slice A1 (T.ids b).length c1, .int .i64 ((T.ids b).length : Nat), .slice A2 (T.nxt b).length c2] ∧
  L' = N ++ L ∧ Rd (N ++ L) A1 (T.ids b).length (T.ids b) ∧ Rd (N ++ L) A2 (T.nxt b).length (partsR b (T.nxt b)) ∧ (T.ids b).length ≤ c1 ∧ c1 ≤ maxLen ∧ (T.nxt b).length ≤ c2
theorem idsOf_len (l : List Pt) {f t : Nat} (h : t ≤ l.length) : (idsOf l f t).length = t - f := by
  unfold idsOf; rw [List.length_map, List.length_take, List.length_drop]; omega
theorem clampN_of {k n : Nat} (h : k ≤ n) : clampN (k : Int) n = k := by unfold clampN; omega
theorem RT.nxt_join {b : Bx} {c : Nat} {q : Option Addr} {a : Arr} {u v : Int} {lo hi : RT} {l : List Pt} (h : (RT.node c q a u v lo hi).of l) (h1 : (RT.node c q a u v lo hi).out b = false) (h2 : (RT.node c q a u v lo hi).ins b = false) :
    lo.of (l.take ((l.length + 1) / 2)) ∧ hi.of (l.drop ((l.length + 1) / 2)) ∧ a = join lo.arr hi.arr := by
  obtain ⟨⟨pf, hf, e1⟩, ⟨pg, hg, e2⟩, hh⟩ := h
  rcases hh with ⟨p, rfl, rfl, rfl, rfl⟩ | ⟨g1, g2, g3, rfl⟩
  · exfalso
    simp only [RT.out, RT.ins, decide_eq_false_iff_not] at h1 h2
    simp at hf hg
    subst hf hg
    omega
  · exact ⟨g2, g3, rfl⟩
theorem srtI_len (l : List Int) : (srt l).length = l.length := (srt_perm l).length_eq
theorem plook_ctr (T : RT) (b : Bx) (l : List Pt) (L : List HP) (h : RIn L T) (ho : T.of l) (hn : l.length ≤ 100000) :
    Ctr Tryz.prog 79 #[.agg #[.pointer T.addr, .int .i64 (T.arr.pts.countP (belowF b.y1) : Nat), .int .i64 (T.arr.pts.countP (upToF b.y2) : Nat)], .agg #[.int .i64 b.x1, .int .i64 b.x2, .int .i64 b.y1, .int .i64 b.y2]] L fun r L' => LkR b T L r L' := by
  cases hT : T with
  | nil =>
    have e1 : RT.nil.ids b = [] := rfl
    have e2 : RT.nil.nxt b = [] := rfl
    unfold LkR
    rw [e1, e2]
    refine Ctr_of (fn := Tryz.f79) (n := 79) Tryz.func79 rfl rfl rfl ?_
    intro g F
    (repeat first | refine G_seq ?_ | refine G_skip ?_ | refine G_endblk ?_ | refine G_block ?_ | refine G_exit rfl ?_)
    refine G_region ?_
    refine GO_eff rfl rfl (eff_box rfl) ?_; rintro _ _ ⟨b2, rfl, rfl⟩
    refine GO_eff rfl rfl (eff_box rfl) ?_; rintro _ _ ⟨b3, rfl, rfl⟩
    refine GO_q rfl rfl (ev_assign rfl) ?_
    refine GO_q rfl rfl (ev_assign rfl) ?_
    refine GO_q rfl rfl (ev_assign rfl) ?_
    refine GO_nil ?_
    (repeat first | refine G_seq ?_ | refine G_skip ?_ | refine G_endblk ?_ | refine G_block ?_ | refine G_exit rfl ?_)
    refine G_draw (.q 0 (.q 1 (.q 2 (.q 3 (.q 4 (.e 5 (.q 6 (.q 7 (.q 8 (.q 9 (.q 10 (.q 11 (.q 12 (.q 13 (.q 14 (.q 15 (.q 16 (.q 17 (.q 18 (.q 19 (.q 20 (.q 21 (.q 22 (.q 23 (.q 24 (.q 25 (.q 26 (.q 27 (.q 28 (.q 29 (.q 30 (.q 31 (.q 32 (.q 33 (.q 34 (.q 35 .nil)))))))))))))))))))))))))))))))))))) (by kernel_rfl) (by kernel_rfl) ?_
    refine RS_m retB_noPanic rfl rfl rfl rfl (ev_fieldAddr rfl) ?_
    refine RS_q retB_noPanic rfl rfl rfl rfl (ev_load rfl (by repeat' first | exact Ld.blk rfl | assumption | apply Ld.skip | apply Ld.app)) ?_
    (first | refine RS_m retB_noPanic rfl rfl rfl rfl (ev_eqlNil rfl rfl) ?_ | refine RS_m retB_noPanic rfl rfl rfl rfl (ev_eqlPtr rfl rfl) ?_)
    refine RS_m retB_noPanic rfl rfl rfl rfl (ev_move rfl) ?_
    refine RS_q_no retB_noPanic rfl rfl rfl ⟨_, rfl, rfl⟩ rfl ?_
    refine RS_e (RE_no rfl rfl rfl ⟨_, rfl, rfl⟩ rfl ?_)
    refine RS_q_no retB_noPanic rfl rfl rfl ⟨_, rfl, rfl⟩ rfl ?_
    refine RS_m retB_noPanic rfl rfl rfl rfl (ev_pick_t rfl rfl rfl) ?_
    refine RS_m retB_noPanic rfl rfl rfl rfl (ev_move rfl) ?_
    refine RS_q_no retB_noPanic rfl rfl rfl ⟨_, rfl, rfl⟩ rfl ?_
    refine RS_q_no retB_noPanic rfl rfl rfl ⟨_, rfl, rfl⟩ rfl ?_
    refine RS_q_no retB_noPanic rfl rfl rfl ⟨_, rfl, rfl⟩ rfl ?_
    refine RS_q_no retB_noPanic rfl rfl rfl ⟨_, rfl, rfl⟩ rfl ?_
    refine RS_q_no retB_noPanic rfl rfl rfl ⟨_, rfl, rfl⟩ rfl ?_
    refine RS_m retB_noPanic rfl rfl rfl rfl (ev_pick_t rfl rfl rfl) ?_
    refine RS_m retB_noPanic rfl rfl rfl rfl (ev_move rfl) ?_
    refine RS_q_no retB_noPanic rfl rfl rfl ⟨_, rfl, rfl⟩ rfl ?_
    refine RS_q_no retB_noPanic rfl rfl rfl ⟨_, rfl, rfl⟩ rfl ?_
    refine RS_q_no retB_noPanic rfl rfl rfl ⟨_, rfl, rfl⟩ rfl ?_
    refine RS_q_no retB_noPanic rfl rfl rfl ⟨_, rfl, rfl⟩ rfl ?_
    refine RS_q_no retB_noPanic rfl rfl rfl ⟨_, rfl, rfl⟩ rfl ?_
    refine RS_q_no retB_noPanic rfl rfl rfl ⟨_, rfl, rfl⟩ rfl ?_
    refine RS_q_no retB_noPanic rfl rfl rfl ⟨_, rfl, rfl⟩ rfl ?_
    refine RS_q_no retB_noPanic rfl rfl rfl ⟨_, rfl, rfl⟩ rfl ?_
    refine RS_m retB_noPanic rfl rfl rfl rfl (ev_pick_t rfl rfl rfl) ?_
    refine RS_m retB_noPanic rfl rfl rfl rfl (ev_move rfl) ?_
    refine RS_q_no retB_noPanic rfl rfl rfl ⟨_, rfl, rfl⟩ rfl ?_
    refine RS_q_no retB_noPanic rfl rfl rfl ⟨_, rfl, rfl⟩ rfl ?_
    refine RS_q_no retB_noPanic rfl rfl rfl ⟨_, rfl, rfl⟩ rfl ?_
    refine RS_q_no retB_noPanic rfl rfl rfl ⟨_, rfl, rfl⟩ rfl ?_
    refine RS_q_no retB_noPanic rfl rfl rfl ⟨_, rfl, rfl⟩ rfl ?_
    refine RS_q_no retB_noPanic rfl rfl rfl ⟨_, rfl, rfl⟩ rfl ?_
    refine RS_q_no retB_noPanic rfl rfl rfl ⟨_, rfl, rfl⟩ rfl ?_
    refine RS_q_no retB_noPanic rfl rfl rfl ⟨_, rfl, rfl⟩ rfl ?_
    refine RS_m retB_noPanic rfl rfl rfl rfl (ev_pick_t rfl rfl rfl) ?_
    refine RS_m retB_noPanic rfl rfl rfl rfl (ev_assign rfl) ?_
    refine RS_nil ?_
    (repeat first | refine G_seq ?_ | refine G_skip ?_ | refine G_endblk ?_ | refine G_block ?_ | refine G_exit rfl ?_)
    refine G_cond_t rfl rfl ?_
    (repeat first | refine G_seq ?_ | refine G_skip ?_ | refine G_endblk ?_ | refine G_block ?_ | refine G_exit rfl ?_)
    refine G_region ?_
    refine GO_q rfl rfl (ev_assign rfl) ?_
    refine GO_q rfl rfl (ev_assign rfl) ?_
    refine GO_q rfl rfl (ev_assign rfl) ?_
    refine GO_nil ?_
    (repeat first | refine G_seq ?_ | refine G_skip ?_ | refine G_endblk ?_ | refine G_block ?_ | refine G_exit rfl ?_)
    exact G_ret (L' := [] ++ L) rfl (.tmp rfl (.tmp rfl (.tmp rfl .nil))) (by (repeat first | exact fun _ s => s | apply en_keep | apply en_drop | apply en_app) <;> fail) ⟨none, 0, none, 0, [], rfl, rfl, Rd.nil _ _, Rd.nil _ _, Nat.le_refl _, Nat.zero_le _, Nat.le_refl _⟩
  | node c q a u v lo hi =>
    subst hT
    have hal : a.es.length ≤ 100000 := by have : a.es.length = l.length := ho.len; omega
    have hpl : a.pts.length = a.es.length := List.length_map _
    have k1 : a.pts.countP (belowF b.y1) ≤ a.es.length := by rw [← hpl]; exact List.countP_le_length
    have k2 : a.pts.countP (upToF b.y2) ≤ a.es.length := by rw [← hpl]; exact List.countP_le_length
    have hj := fun h1 h2 => RT.nxt_join (b := b) ho h1 h2
    obtain ⟨z, ha, i1, i2⟩ := id h
    have z0 : Ld L ⟨c, 0 + 0, none⟩ (.pointer q) := z.at_ (i := 0) rfl
    have z1 : Ld L ⟨c, 0 + 1, none⟩ (.int .i64 u) := z.at_ (i := 1) rfl
    have z2 : Ld L ⟨c, 0 + 2, none⟩ (.int .i64 v) := z.at_ (i := 2) rfl
    have hids := fun M (h9 : ArrIn M q a) => IDs_ctr q a (a.pts.countP (belowF b.y1) : Nat) (a.pts.countP (upToF b.y2) : Nat) M h9 hal
    rw [clampN_of k1, clampN_of k2] at hids
    have hil : (idsOf a.pts (a.pts.countP (belowF b.y1)) (a.pts.countP (upToF b.y2))).length = a.pts.countP (upToF b.y2) - a.pts.countP (belowF b.y1) := idsOf_len _ (by rw [hpl]; exact k2)
    rw [hil] at hids
    have hsz := fun M => psize_ctr (some ⟨c, 0, none⟩) (a.pts.countP (belowF b.y1)) (a.pts.countP (upToF b.y2)) M (by omega) (by omega)
    have hh := fun high M (h9 : RIn M (.node c q a u v lo hi)) => half_ctr c q a u v lo hi (a.pts.countP (belowF b.y1)) (a.pts.countP (upToF b.y2)) high M h9 hal (by omega) (by omega)
    show Ctr Tryz.prog 79 #[.agg #[.pointer (some ⟨c, 0, none⟩), .int .i64 (a.pts.countP (belowF b.y1) : Nat), .int .i64 (a.pts.countP (upToF b.y2) : Nat)], .agg #[.int .i64 b.x1, .int .i64 b.x2, .int .i64 b.y1, .int .i64 b.y2]] L _
    by_cases co : (RT.node c q a u v lo hi).out b = true
    · have e1 : (RT.node c q a u v lo hi).ids b = [] := if_pos co
      have e2 : (RT.node c q a u v lo hi).nxt b = [] := if_pos co
      unfold LkR
      rw [e1, e2]
      simp only [RT.out, decide_eq_true_eq] at co
      generalize a.pts.countP (belowF b.y1) = f at *
      generalize a.pts.countP (upToF b.y2) = t at *
      by_cases c1 : t ≤ f
      · skip
        refine Ctr_of (fn := Tryz.f79) (n := 79) Tryz.func79 rfl rfl rfl ?_
        intro g F
        (repeat first | refine G_seq ?_ | refine G_skip ?_ | refine G_endblk ?_ | refine G_block ?_ | refine G_exit rfl ?_)
        refine G_region ?_
        refine GO_eff rfl rfl (eff_box rfl) ?_; rintro _ _ ⟨b2, rfl, rfl⟩
        refine GO_eff rfl rfl (eff_box rfl) ?_; rintro _ _ ⟨b3, rfl, rfl⟩
        refine GO_q rfl rfl (ev_assign rfl) ?_
        refine GO_q rfl rfl (ev_assign rfl) ?_
        refine GO_q rfl rfl (ev_assign rfl) ?_
        refine GO_nil ?_
        (repeat first | refine G_seq ?_ | refine G_skip ?_ | refine G_endblk ?_ | refine G_block ?_ | refine G_exit rfl ?_)
        refine G_draw (.q 0 (.q 1 (.q 2 (.q 3 (.q 4 (.e 5 (.q 6 (.q 7 (.q 8 (.q 9 (.q 10 (.q 11 (.q 12 (.q 13 (.q 14 (.q 15 (.q 16 (.q 17 (.q 18 (.q 19 (.q 20 (.q 21 (.q 22 (.q 23 (.q 24 (.q 25 (.q 26 (.q 27 (.q 28 (.q 29 (.q 30 (.q 31 (.q 32 (.q 33 (.q 34 (.q 35 .nil)))))))))))))))))))))))))))))))))))) (by kernel_rfl) (by kernel_rfl) ?_
        refine RS_m retB_noPanic rfl rfl rfl rfl (ev_fieldAddr rfl) ?_
        refine RS_q retB_noPanic rfl rfl rfl rfl (ev_load rfl (by repeat' first | exact Ld.blk rfl | assumption | apply Ld.skip | apply Ld.app)) ?_
        (first | refine RS_m retB_noPanic rfl rfl rfl rfl (ev_eqlNil rfl rfl) ?_ | refine RS_m retB_noPanic rfl rfl rfl rfl (ev_eqlPtr rfl rfl) ?_)
        refine RS_m retB_noPanic rfl rfl rfl rfl (ev_move rfl) ?_
        refine RS_q_yes retB_noPanic rfl rfl rfl rfl ⟨_, rfl, rfl⟩ rfl (ev_loadN rfl (by repeat' first | exact LdN.blk rfl | assumption | apply LdN.skip | apply LdN.app)) ?_
        refine RS_e (RE_eff_yes rfl rfl rfl ⟨_, rfl, rfl⟩ rfl (eff_call rfl (hsz _)) ?_); rintro _ _ ⟨rfl, rfl⟩; refine ⟨_, fun _ s => s, (by first | ((repeat first | exact fun _ s => s | apply en_keep | apply en_drop | apply en_app) <;> fail) | ((repeat first | exact en_refl | (apply en_blk; focus ((repeat' first | exact Pick.here | apply Pick.skip | apply Pick.app); done); focus rfl) | (apply en_own; focus ((repeat' first | exact Pick.here | apply Pick.skip | apply Pick.app); done); focus rfl) | (apply en_pick; focus ((repeat' first | exact Pick.here | apply Pick.skip | apply Pick.app); done)) | apply en_drop | apply en_app) <;> fail)), ?_⟩
        refine RS_m_yes retB_noPanic rfl rfl rfl rfl ⟨_, rfl, rfl⟩ rfl (ev_eql rfl rfl) ?_
        refine RS_m retB_noPanic rfl rfl rfl rfl (ev_pick_f rfl rfl rfl) ?_
        refine RS_m retB_noPanic rfl rfl rfl rfl (ev_move rfl) ?_
        refine RS_q_no retB_noPanic rfl rfl rfl ⟨_, rfl, (decide_eq_true (by omega))⟩ rfl ?_
        refine RS_q_no retB_noPanic rfl rfl rfl ⟨_, rfl, (decide_eq_true (by omega))⟩ rfl ?_
        refine RS_q_no retB_noPanic rfl rfl rfl ⟨_, rfl, (decide_eq_true (by omega))⟩ rfl ?_
        refine RS_q_no retB_noPanic rfl rfl rfl ⟨_, rfl, (decide_eq_true (by omega))⟩ rfl ?_
        refine RS_q_no retB_noPanic rfl rfl rfl ⟨_, rfl, (decide_eq_true (by omega))⟩ rfl ?_
        refine RS_m retB_noPanic rfl rfl rfl rfl (ev_pick_t rfl (decide_eq_true (by omega)) rfl) ?_
        refine RS_m retB_noPanic rfl rfl rfl rfl (ev_move rfl) ?_
        refine RS_q_no retB_noPanic rfl rfl rfl ⟨_, rfl, rfl⟩ rfl ?_
        refine RS_q_no retB_noPanic rfl rfl rfl ⟨_, rfl, rfl⟩ rfl ?_
        refine RS_q_no retB_noPanic rfl rfl rfl ⟨_, rfl, rfl⟩ rfl ?_
        refine RS_q_no retB_noPanic rfl rfl rfl ⟨_, rfl, rfl⟩ rfl ?_
        refine RS_q_no retB_noPanic rfl rfl rfl ⟨_, rfl, rfl⟩ rfl ?_
        refine RS_q_no retB_noPanic rfl rfl rfl ⟨_, rfl, rfl⟩ rfl ?_
        refine RS_q_no retB_noPanic rfl rfl rfl ⟨_, rfl, rfl⟩ rfl ?_
        refine RS_q_no retB_noPanic rfl rfl rfl ⟨_, rfl, rfl⟩ rfl ?_
        refine RS_m retB_noPanic rfl rfl rfl rfl (ev_pick_t rfl rfl rfl) ?_
        refine RS_m retB_noPanic rfl rfl rfl rfl (ev_move rfl) ?_
        refine RS_q_no retB_noPanic rfl rfl rfl ⟨_, rfl, rfl⟩ rfl ?_
        refine RS_q_no retB_noPanic rfl rfl rfl ⟨_, rfl, rfl⟩ rfl ?_
        refine RS_q_no retB_noPanic rfl rfl rfl ⟨_, rfl, rfl⟩ rfl ?_
        refine RS_q_no retB_noPanic rfl rfl rfl ⟨_, rfl, rfl⟩ rfl ?_
        refine RS_q_no retB_noPanic rfl rfl rfl ⟨_, rfl, rfl⟩ rfl ?_
        refine RS_q_no retB_noPanic rfl rfl rfl ⟨_, rfl, rfl⟩ rfl ?_
        refine RS_q_no retB_noPanic rfl rfl rfl ⟨_, rfl, rfl⟩ rfl ?_
        refine RS_q_no retB_noPanic rfl rfl rfl ⟨_, rfl, rfl⟩ rfl ?_
        refine RS_m retB_noPanic rfl rfl rfl rfl (ev_pick_t rfl rfl rfl) ?_
        refine RS_m retB_noPanic rfl rfl rfl rfl (ev_assign rfl) ?_
        refine RS_nil ?_
        (repeat first | refine G_seq ?_ | refine G_skip ?_ | refine G_endblk ?_ | refine G_block ?_ | refine G_exit rfl ?_)
        refine G_cond_t rfl rfl ?_
        (repeat first | refine G_seq ?_ | refine G_skip ?_ | refine G_endblk ?_ | refine G_block ?_ | refine G_exit rfl ?_)
        refine G_region ?_
        refine GO_q rfl rfl (ev_assign rfl) ?_
        refine GO_q rfl rfl (ev_assign rfl) ?_
        refine GO_q rfl rfl (ev_assign rfl) ?_
        refine GO_nil ?_
        (repeat first | refine G_seq ?_ | refine G_skip ?_ | refine G_endblk ?_ | refine G_block ?_ | refine G_exit rfl ?_)
        exact G_ret (L' := [] ++ L) rfl (.tmp rfl (.tmp rfl (.tmp rfl .nil))) (by (repeat first | exact fun _ s => s | apply en_keep | apply en_drop | apply en_app) <;> fail) ⟨none, 0, none, 0, [], rfl, rfl, Rd.nil _ _, Rd.nil _ _, Nat.le_refl _, Nat.zero_le _, Nat.le_refl _⟩
      · by_cases c2 : b.x2 < b.x1
        · skip
          refine Ctr_of (fn := Tryz.f79) (n := 79) Tryz.func79 rfl rfl rfl ?_
          intro g F
          (repeat first | refine G_seq ?_ | refine G_skip ?_ | refine G_endblk ?_ | refine G_block ?_ | refine G_exit rfl ?_)
          refine G_region ?_
          refine GO_eff rfl rfl (eff_box rfl) ?_; rintro _ _ ⟨b2, rfl, rfl⟩
          refine GO_eff rfl rfl (eff_box rfl) ?_; rintro _ _ ⟨b3, rfl, rfl⟩
          refine GO_q rfl rfl (ev_assign rfl) ?_
          refine GO_q rfl rfl (ev_assign rfl) ?_
          refine GO_q rfl rfl (ev_assign rfl) ?_
          refine GO_nil ?_
          (repeat first | refine G_seq ?_ | refine G_skip ?_ | refine G_endblk ?_ | refine G_block ?_ | refine G_exit rfl ?_)
          refine G_draw (.q 0 (.q 1 (.q 2 (.q 3 (.q 4 (.e 5 (.q 6 (.q 7 (.q 8 (.q 9 (.q 10 (.q 11 (.q 12 (.q 13 (.q 14 (.q 15 (.q 16 (.q 17 (.q 18 (.q 19 (.q 20 (.q 21 (.q 22 (.q 23 (.q 24 (.q 25 (.q 26 (.q 27 (.q 28 (.q 29 (.q 30 (.q 31 (.q 32 (.q 33 (.q 34 (.q 35 .nil)))))))))))))))))))))))))))))))))))) (by kernel_rfl) (by kernel_rfl) ?_
          refine RS_m retB_noPanic rfl rfl rfl rfl (ev_fieldAddr rfl) ?_
          refine RS_q retB_noPanic rfl rfl rfl rfl (ev_load rfl (by repeat' first | exact Ld.blk rfl | assumption | apply Ld.skip | apply Ld.app)) ?_
          (first | refine RS_m retB_noPanic rfl rfl rfl rfl (ev_eqlNil rfl rfl) ?_ | refine RS_m retB_noPanic rfl rfl rfl rfl (ev_eqlPtr rfl rfl) ?_)
          refine RS_m retB_noPanic rfl rfl rfl rfl (ev_move rfl) ?_
          refine RS_q_yes retB_noPanic rfl rfl rfl rfl ⟨_, rfl, rfl⟩ rfl (ev_loadN rfl (by repeat' first | exact LdN.blk rfl | assumption | apply LdN.skip | apply LdN.app)) ?_
          refine RS_e (RE_eff_yes rfl rfl rfl ⟨_, rfl, rfl⟩ rfl (eff_call rfl (hsz _)) ?_); rintro _ _ ⟨rfl, rfl⟩; refine ⟨_, fun _ s => s, (by first | ((repeat first | exact fun _ s => s | apply en_keep | apply en_drop | apply en_app) <;> fail) | ((repeat first | exact en_refl | (apply en_blk; focus ((repeat' first | exact Pick.here | apply Pick.skip | apply Pick.app); done); focus rfl) | (apply en_own; focus ((repeat' first | exact Pick.here | apply Pick.skip | apply Pick.app); done); focus rfl) | (apply en_pick; focus ((repeat' first | exact Pick.here | apply Pick.skip | apply Pick.app); done)) | apply en_drop | apply en_app) <;> fail)), ?_⟩
          refine RS_m_yes retB_noPanic rfl rfl rfl rfl ⟨_, rfl, rfl⟩ rfl (ev_eql rfl rfl) ?_
          refine RS_m retB_noPanic rfl rfl rfl rfl (ev_pick_f rfl rfl rfl) ?_
          refine RS_m retB_noPanic rfl rfl rfl rfl (ev_move rfl) ?_
          refine RS_m_yes retB_noPanic rfl rfl rfl rfl ⟨_, rfl, (decide_eq_false (by omega))⟩ rfl (ev_fieldAddr rfl) ?_
          refine RS_q_yes retB_noPanic rfl rfl rfl rfl ⟨_, rfl, (decide_eq_false (by omega))⟩ rfl (ev_load rfl (by repeat' first | exact Ld.blk rfl | assumption | apply Ld.skip | apply Ld.app)) ?_
          refine RS_m_yes retB_noPanic rfl rfl rfl rfl ⟨_, rfl, (decide_eq_false (by omega))⟩ rfl (ev_fieldAddr rfl) ?_
          refine RS_q_yes retB_noPanic rfl rfl rfl rfl ⟨_, rfl, (decide_eq_false (by omega))⟩ rfl (ev_load rfl (by repeat' first | exact Ld.blk rfl | assumption | apply Ld.skip | apply Ld.app)) ?_
          refine RS_m_yes retB_noPanic rfl rfl rfl rfl ⟨_, rfl, (decide_eq_false (by omega))⟩ rfl (ev_gtr rfl rfl) ?_
          refine RS_m retB_noPanic rfl rfl rfl rfl (ev_pick_f rfl (decide_eq_false (by omega)) rfl) ?_
          refine RS_m retB_noPanic rfl rfl rfl rfl (ev_move rfl) ?_
          refine RS_q_no retB_noPanic rfl rfl rfl ⟨_, rfl, (decide_eq_true c2)⟩ rfl ?_
          refine RS_q_no retB_noPanic rfl rfl rfl ⟨_, rfl, (decide_eq_true c2)⟩ rfl ?_
          refine RS_q_no retB_noPanic rfl rfl rfl ⟨_, rfl, (decide_eq_true c2)⟩ rfl ?_
          refine RS_q_no retB_noPanic rfl rfl rfl ⟨_, rfl, (decide_eq_true c2)⟩ rfl ?_
          refine RS_q_no retB_noPanic rfl rfl rfl ⟨_, rfl, (decide_eq_true c2)⟩ rfl ?_
          refine RS_q_no retB_noPanic rfl rfl rfl ⟨_, rfl, (decide_eq_true c2)⟩ rfl ?_
          refine RS_q_no retB_noPanic rfl rfl rfl ⟨_, rfl, (decide_eq_true c2)⟩ rfl ?_
          refine RS_q_no retB_noPanic rfl rfl rfl ⟨_, rfl, (decide_eq_true c2)⟩ rfl ?_
          refine RS_m retB_noPanic rfl rfl rfl rfl (ev_pick_t rfl (decide_eq_true c2) rfl) ?_
          refine RS_m retB_noPanic rfl rfl rfl rfl (ev_move rfl) ?_
          refine RS_q_no retB_noPanic rfl rfl rfl ⟨_, rfl, rfl⟩ rfl ?_
          refine RS_q_no retB_noPanic rfl rfl rfl ⟨_, rfl, rfl⟩ rfl ?_
          refine RS_q_no retB_noPanic rfl rfl rfl ⟨_, rfl, rfl⟩ rfl ?_
          refine RS_q_no retB_noPanic rfl rfl rfl ⟨_, rfl, rfl⟩ rfl ?_
          refine RS_q_no retB_noPanic rfl rfl rfl ⟨_, rfl, rfl⟩ rfl ?_
          refine RS_q_no retB_noPanic rfl rfl rfl ⟨_, rfl, rfl⟩ rfl ?_
          refine RS_q_no retB_noPanic rfl rfl rfl ⟨_, rfl, rfl⟩ rfl ?_
          refine RS_q_no retB_noPanic rfl rfl rfl ⟨_, rfl, rfl⟩ rfl ?_
          refine RS_m retB_noPanic rfl rfl rfl rfl (ev_pick_t rfl rfl rfl) ?_
          refine RS_m retB_noPanic rfl rfl rfl rfl (ev_assign rfl) ?_
          refine RS_nil ?_
          (repeat first | refine G_seq ?_ | refine G_skip ?_ | refine G_endblk ?_ | refine G_block ?_ | refine G_exit rfl ?_)
          refine G_cond_t rfl rfl ?_
          (repeat first | refine G_seq ?_ | refine G_skip ?_ | refine G_endblk ?_ | refine G_block ?_ | refine G_exit rfl ?_)
          refine G_region ?_
          refine GO_q rfl rfl (ev_assign rfl) ?_
          refine GO_q rfl rfl (ev_assign rfl) ?_
          refine GO_q rfl rfl (ev_assign rfl) ?_
          refine GO_nil ?_
          (repeat first | refine G_seq ?_ | refine G_skip ?_ | refine G_endblk ?_ | refine G_block ?_ | refine G_exit rfl ?_)
          exact G_ret (L' := [] ++ L) rfl (.tmp rfl (.tmp rfl (.tmp rfl .nil))) (by (repeat first | exact fun _ s => s | apply en_keep | apply en_drop | apply en_app) <;> fail) ⟨none, 0, none, 0, [], rfl, rfl, Rd.nil _ _, Rd.nil _ _, Nat.le_refl _, Nat.zero_le _, Nat.le_refl _⟩
        · by_cases c3 : v < b.x1
          · skip
            refine Ctr_of (fn := Tryz.f79) (n := 79) Tryz.func79 rfl rfl rfl ?_
            intro g F
            (repeat first | refine G_seq ?_ | refine G_skip ?_ | refine G_endblk ?_ | refine G_block ?_ | refine G_exit rfl ?_)
            refine G_region ?_
            refine GO_eff rfl rfl (eff_box rfl) ?_; rintro _ _ ⟨b2, rfl, rfl⟩
            refine GO_eff rfl rfl (eff_box rfl) ?_; rintro _ _ ⟨b3, rfl, rfl⟩
            refine GO_q rfl rfl (ev_assign rfl) ?_
            refine GO_q rfl rfl (ev_assign rfl) ?_
            refine GO_q rfl rfl (ev_assign rfl) ?_
            refine GO_nil ?_
            (repeat first | refine G_seq ?_ | refine G_skip ?_ | refine G_endblk ?_ | refine G_block ?_ | refine G_exit rfl ?_)
            refine G_draw (.q 0 (.q 1 (.q 2 (.q 3 (.q 4 (.e 5 (.q 6 (.q 7 (.q 8 (.q 9 (.q 10 (.q 11 (.q 12 (.q 13 (.q 14 (.q 15 (.q 16 (.q 17 (.q 18 (.q 19 (.q 20 (.q 21 (.q 22 (.q 23 (.q 24 (.q 25 (.q 26 (.q 27 (.q 28 (.q 29 (.q 30 (.q 31 (.q 32 (.q 33 (.q 34 (.q 35 .nil)))))))))))))))))))))))))))))))))))) (by kernel_rfl) (by kernel_rfl) ?_
            refine RS_m retB_noPanic rfl rfl rfl rfl (ev_fieldAddr rfl) ?_
            refine RS_q retB_noPanic rfl rfl rfl rfl (ev_load rfl (by repeat' first | exact Ld.blk rfl | assumption | apply Ld.skip | apply Ld.app)) ?_
            (first | refine RS_m retB_noPanic rfl rfl rfl rfl (ev_eqlNil rfl rfl) ?_ | refine RS_m retB_noPanic rfl rfl rfl rfl (ev_eqlPtr rfl rfl) ?_)
            refine RS_m retB_noPanic rfl rfl rfl rfl (ev_move rfl) ?_
            refine RS_q_yes retB_noPanic rfl rfl rfl rfl ⟨_, rfl, rfl⟩ rfl (ev_loadN rfl (by repeat' first | exact LdN.blk rfl | assumption | apply LdN.skip | apply LdN.app)) ?_
            refine RS_e (RE_eff_yes rfl rfl rfl ⟨_, rfl, rfl⟩ rfl (eff_call rfl (hsz _)) ?_); rintro _ _ ⟨rfl, rfl⟩; refine ⟨_, fun _ s => s, (by first | ((repeat first | exact fun _ s => s | apply en_keep | apply en_drop | apply en_app) <;> fail) | ((repeat first | exact en_refl | (apply en_blk; focus ((repeat' first | exact Pick.here | apply Pick.skip | apply Pick.app); done); focus rfl) | (apply en_own; focus ((repeat' first | exact Pick.here | apply Pick.skip | apply Pick.app); done); focus rfl) | (apply en_pick; focus ((repeat' first | exact Pick.here | apply Pick.skip | apply Pick.app); done)) | apply en_drop | apply en_app) <;> fail)), ?_⟩
            refine RS_m_yes retB_noPanic rfl rfl rfl rfl ⟨_, rfl, rfl⟩ rfl (ev_eql rfl rfl) ?_
            refine RS_m retB_noPanic rfl rfl rfl rfl (ev_pick_f rfl rfl rfl) ?_
            refine RS_m retB_noPanic rfl rfl rfl rfl (ev_move rfl) ?_
            refine RS_m_yes retB_noPanic rfl rfl rfl rfl ⟨_, rfl, (decide_eq_false (by omega))⟩ rfl (ev_fieldAddr rfl) ?_
            refine RS_q_yes retB_noPanic rfl rfl rfl rfl ⟨_, rfl, (decide_eq_false (by omega))⟩ rfl (ev_load rfl (by repeat' first | exact Ld.blk rfl | assumption | apply Ld.skip | apply Ld.app)) ?_
            refine RS_m_yes retB_noPanic rfl rfl rfl rfl ⟨_, rfl, (decide_eq_false (by omega))⟩ rfl (ev_fieldAddr rfl) ?_
            refine RS_q_yes retB_noPanic rfl rfl rfl rfl ⟨_, rfl, (decide_eq_false (by omega))⟩ rfl (ev_load rfl (by repeat' first | exact Ld.blk rfl | assumption | apply Ld.skip | apply Ld.app)) ?_
            refine RS_m_yes retB_noPanic rfl rfl rfl rfl ⟨_, rfl, (decide_eq_false (by omega))⟩ rfl (ev_gtr rfl rfl) ?_
            refine RS_m retB_noPanic rfl rfl rfl rfl (ev_pick_f rfl (decide_eq_false (by omega)) rfl) ?_
            refine RS_m retB_noPanic rfl rfl rfl rfl (ev_move rfl) ?_
            refine RS_m_yes retB_noPanic rfl rfl rfl rfl ⟨_, rfl, (decide_eq_false c2)⟩ rfl (ev_fieldAddr rfl) ?_
            refine RS_q_yes retB_noPanic rfl rfl rfl rfl ⟨_, rfl, (decide_eq_false c2)⟩ rfl (ev_load rfl (by repeat' first | exact Ld.blk rfl | assumption | apply Ld.skip | apply Ld.app)) ?_
            (first | refine RS_m_yes retB_noPanic rfl rfl rfl rfl ⟨_, rfl, (decide_eq_false c2)⟩ rfl (ev_nilCheck rfl) ?_ | refine RS_m_yes retB_noPanic rfl rfl rfl rfl ⟨_, rfl, (decide_eq_false c2)⟩ rfl (ev_nilCheckF (by simp) rfl) ?_)
            refine RS_m_yes retB_noPanic rfl rfl rfl rfl ⟨_, rfl, (decide_eq_false c2)⟩ rfl (ev_fieldAddr rfl) ?_
            refine RS_q_yes retB_noPanic rfl rfl rfl rfl ⟨_, rfl, (decide_eq_false c2)⟩ rfl (ev_load rfl (by repeat' first | exact Ld.blk rfl | assumption | apply Ld.skip | apply Ld.app)) ?_
            refine RS_m_yes retB_noPanic rfl rfl rfl rfl ⟨_, rfl, (decide_eq_false c2)⟩ rfl (ev_fieldAddr rfl) ?_
            refine RS_q_yes retB_noPanic rfl rfl rfl rfl ⟨_, rfl, (decide_eq_false c2)⟩ rfl (ev_load rfl (by repeat' first | exact Ld.blk rfl | assumption | apply Ld.skip | apply Ld.app)) ?_
            (first | refine RS_m_yes retB_noPanic rfl rfl rfl rfl ⟨_, rfl, (decide_eq_false c2)⟩ rfl (ev_lssN rfl rfl) ?_ | refine RS_m_yes retB_noPanic rfl rfl rfl rfl ⟨_, rfl, (decide_eq_false c2)⟩ rfl (ev_lss rfl rfl) ?_)
            refine RS_m retB_noPanic rfl rfl rfl rfl (ev_pick_f rfl (decide_eq_false c2) rfl) ?_
            refine RS_m retB_noPanic rfl rfl rfl rfl (ev_move rfl) ?_
            refine RS_q_no retB_noPanic rfl rfl rfl ⟨_, rfl, (decide_eq_true c3)⟩ rfl ?_
            refine RS_q_no retB_noPanic rfl rfl rfl ⟨_, rfl, (decide_eq_true c3)⟩ rfl ?_
            refine RS_q_no retB_noPanic rfl rfl rfl ⟨_, rfl, (decide_eq_true c3)⟩ rfl ?_
            refine RS_q_no retB_noPanic rfl rfl rfl ⟨_, rfl, (decide_eq_true c3)⟩ rfl ?_
            refine RS_q_no retB_noPanic rfl rfl rfl ⟨_, rfl, (decide_eq_true c3)⟩ rfl ?_
            refine RS_q_no retB_noPanic rfl rfl rfl ⟨_, rfl, (decide_eq_true c3)⟩ rfl ?_
            refine RS_q_no retB_noPanic rfl rfl rfl ⟨_, rfl, (decide_eq_true c3)⟩ rfl ?_
            refine RS_q_no retB_noPanic rfl rfl rfl ⟨_, rfl, (decide_eq_true c3)⟩ rfl ?_
            refine RS_m retB_noPanic rfl rfl rfl rfl (ev_pick_t rfl (decide_eq_true c3) rfl) ?_
            refine RS_m retB_noPanic rfl rfl rfl rfl (ev_assign rfl) ?_
            refine RS_nil ?_
            (repeat first | refine G_seq ?_ | refine G_skip ?_ | refine G_endblk ?_ | refine G_block ?_ | refine G_exit rfl ?_)
            refine G_cond_t rfl rfl ?_
            (repeat first | refine G_seq ?_ | refine G_skip ?_ | refine G_endblk ?_ | refine G_block ?_ | refine G_exit rfl ?_)
            refine G_region ?_
            refine GO_q rfl rfl (ev_assign rfl) ?_
            refine GO_q rfl rfl (ev_assign rfl) ?_
            refine GO_q rfl rfl (ev_assign rfl) ?_
            refine GO_nil ?_
            (repeat first | refine G_seq ?_ | refine G_skip ?_ | refine G_endblk ?_ | refine G_block ?_ | refine G_exit rfl ?_)
            exact G_ret (L' := [] ++ L) rfl (.tmp rfl (.tmp rfl (.tmp rfl .nil))) (by (repeat first | exact fun _ s => s | apply en_keep | apply en_drop | apply en_app) <;> fail) ⟨none, 0, none, 0, [], rfl, rfl, Rd.nil _ _, Rd.nil _ _, Nat.le_refl _, Nat.zero_le _, Nat.le_refl _⟩
          · skip
            refine Ctr_of (fn := Tryz.f79) (n := 79) Tryz.func79 rfl rfl rfl ?_
            intro g F
            (repeat first | refine G_seq ?_ | refine G_skip ?_ | refine G_endblk ?_ | refine G_block ?_ | refine G_exit rfl ?_)
            refine G_region ?_
            refine GO_eff rfl rfl (eff_box rfl) ?_; rintro _ _ ⟨b2, rfl, rfl⟩
            refine GO_eff rfl rfl (eff_box rfl) ?_; rintro _ _ ⟨b3, rfl, rfl⟩
            refine GO_q rfl rfl (ev_assign rfl) ?_
            refine GO_q rfl rfl (ev_assign rfl) ?_
            refine GO_q rfl rfl (ev_assign rfl) ?_
            refine GO_nil ?_
            (repeat first | refine G_seq ?_ | refine G_skip ?_ | refine G_endblk ?_ | refine G_block ?_ | refine G_exit rfl ?_)
            refine G_draw (.q 0 (.q 1 (.q 2 (.q 3 (.q 4 (.e 5 (.q 6 (.q 7 (.q 8 (.q 9 (.q 10 (.q 11 (.q 12 (.q 13 (.q 14 (.q 15 (.q 16 (.q 17 (.q 18 (.q 19 (.q 20 (.q 21 (.q 22 (.q 23 (.q 24 (.q 25 (.q 26 (.q 27 (.q 28 (.q 29 (.q 30 (.q 31 (.q 32 (.q 33 (.q 34 (.q 35 .nil)))))))))))))))))))))))))))))))))))) (by kernel_rfl) (by kernel_rfl) ?_
            refine RS_m retB_noPanic rfl rfl rfl rfl (ev_fieldAddr rfl) ?_
            refine RS_q retB_noPanic rfl rfl rfl rfl (ev_load rfl (by repeat' first | exact Ld.blk rfl | assumption | apply Ld.skip | apply Ld.app)) ?_
            (first | refine RS_m retB_noPanic rfl rfl rfl rfl (ev_eqlNil rfl rfl) ?_ | refine RS_m retB_noPanic rfl rfl rfl rfl (ev_eqlPtr rfl rfl) ?_)
            refine RS_m retB_noPanic rfl rfl rfl rfl (ev_move rfl) ?_
            refine RS_q_yes retB_noPanic rfl rfl rfl rfl ⟨_, rfl, rfl⟩ rfl (ev_loadN rfl (by repeat' first | exact LdN.blk rfl | assumption | apply LdN.skip | apply LdN.app)) ?_
            refine RS_e (RE_eff_yes rfl rfl rfl ⟨_, rfl, rfl⟩ rfl (eff_call rfl (hsz _)) ?_); rintro _ _ ⟨rfl, rfl⟩; refine ⟨_, fun _ s => s, (by first | ((repeat first | exact fun _ s => s | apply en_keep | apply en_drop | apply en_app) <;> fail) | ((repeat first | exact en_refl | (apply en_blk; focus ((repeat' first | exact Pick.here | apply Pick.skip | apply Pick.app); done); focus rfl) | (apply en_own; focus ((repeat' first | exact Pick.here | apply Pick.skip | apply Pick.app); done); focus rfl) | (apply en_pick; focus ((repeat' first | exact Pick.here | apply Pick.skip | apply Pick.app); done)) | apply en_drop | apply en_app) <;> fail)), ?_⟩
            refine RS_m_yes retB_noPanic rfl rfl rfl rfl ⟨_, rfl, rfl⟩ rfl (ev_eql rfl rfl) ?_
            refine RS_m retB_noPanic rfl rfl rfl rfl (ev_pick_f rfl rfl rfl) ?_
            refine RS_m retB_noPanic rfl rfl rfl rfl (ev_move rfl) ?_
            refine RS_m_yes retB_noPanic rfl rfl rfl rfl ⟨_, rfl, (decide_eq_false (by omega))⟩ rfl (ev_fieldAddr rfl) ?_
            refine RS_q_yes retB_noPanic rfl rfl rfl rfl ⟨_, rfl, (decide_eq_false (by omega))⟩ rfl (ev_load rfl (by repeat' first | exact Ld.blk rfl | assumption | apply Ld.skip | apply Ld.app)) ?_
            refine RS_m_yes retB_noPanic rfl rfl rfl rfl ⟨_, rfl, (decide_eq_false (by omega))⟩ rfl (ev_fieldAddr rfl) ?_
            refine RS_q_yes retB_noPanic rfl rfl rfl rfl ⟨_, rfl, (decide_eq_false (by omega))⟩ rfl (ev_load rfl (by repeat' first | exact Ld.blk rfl | assumption | apply Ld.skip | apply Ld.app)) ?_
            refine RS_m_yes retB_noPanic rfl rfl rfl rfl ⟨_, rfl, (decide_eq_false (by omega))⟩ rfl (ev_gtr rfl rfl) ?_
            refine RS_m retB_noPanic rfl rfl rfl rfl (ev_pick_f rfl (decide_eq_false (by omega)) rfl) ?_
            refine RS_m retB_noPanic rfl rfl rfl rfl (ev_move rfl) ?_
            refine RS_m_yes retB_noPanic rfl rfl rfl rfl ⟨_, rfl, (decide_eq_false c2)⟩ rfl (ev_fieldAddr rfl) ?_
            refine RS_q_yes retB_noPanic rfl rfl rfl rfl ⟨_, rfl, (decide_eq_false c2)⟩ rfl (ev_load rfl (by repeat' first | exact Ld.blk rfl | assumption | apply Ld.skip | apply Ld.app)) ?_
            (first | refine RS_m_yes retB_noPanic rfl rfl rfl rfl ⟨_, rfl, (decide_eq_false c2)⟩ rfl (ev_nilCheck rfl) ?_ | refine RS_m_yes retB_noPanic rfl rfl rfl rfl ⟨_, rfl, (decide_eq_false c2)⟩ rfl (ev_nilCheckF (by simp) rfl) ?_)
            refine RS_m_yes retB_noPanic rfl rfl rfl rfl ⟨_, rfl, (decide_eq_false c2)⟩ rfl (ev_fieldAddr rfl) ?_
            refine RS_q_yes retB_noPanic rfl rfl rfl rfl ⟨_, rfl, (decide_eq_false c2)⟩ rfl (ev_load rfl (by repeat' first | exact Ld.blk rfl | assumption | apply Ld.skip | apply Ld.app)) ?_
            refine RS_m_yes retB_noPanic rfl rfl rfl rfl ⟨_, rfl, (decide_eq_false c2)⟩ rfl (ev_fieldAddr rfl) ?_
            refine RS_q_yes retB_noPanic rfl rfl rfl rfl ⟨_, rfl, (decide_eq_false c2)⟩ rfl (ev_load rfl (by repeat' first | exact Ld.blk rfl | assumption | apply Ld.skip | apply Ld.app)) ?_
            (first | refine RS_m_yes retB_noPanic rfl rfl rfl rfl ⟨_, rfl, (decide_eq_false c2)⟩ rfl (ev_lssN rfl rfl) ?_ | refine RS_m_yes retB_noPanic rfl rfl rfl rfl ⟨_, rfl, (decide_eq_false c2)⟩ rfl (ev_lss rfl rfl) ?_)
            refine RS_m retB_noPanic rfl rfl rfl rfl (ev_pick_f rfl (decide_eq_false c2) rfl) ?_
            refine RS_m retB_noPanic rfl rfl rfl rfl (ev_move rfl) ?_
            refine RS_m_yes retB_noPanic rfl rfl rfl rfl ⟨_, rfl, (decide_eq_false c3)⟩ rfl (ev_fieldAddr rfl) ?_
            refine RS_q_yes retB_noPanic rfl rfl rfl rfl ⟨_, rfl, (decide_eq_false c3)⟩ rfl (ev_load rfl (by repeat' first | exact Ld.blk rfl | assumption | apply Ld.skip | apply Ld.app)) ?_
            (first | refine RS_m_yes retB_noPanic rfl rfl rfl rfl ⟨_, rfl, (decide_eq_false c3)⟩ rfl (ev_nilCheck rfl) ?_ | refine RS_m_yes retB_noPanic rfl rfl rfl rfl ⟨_, rfl, (decide_eq_false c3)⟩ rfl (ev_nilCheckF (by simp) rfl) ?_)
            refine RS_m_yes retB_noPanic rfl rfl rfl rfl ⟨_, rfl, (decide_eq_false c3)⟩ rfl (ev_fieldAddr rfl) ?_
            refine RS_q_yes retB_noPanic rfl rfl rfl rfl ⟨_, rfl, (decide_eq_false c3)⟩ rfl (ev_load rfl (by repeat' first | exact Ld.blk rfl | assumption | apply Ld.skip | apply Ld.app)) ?_
            refine RS_m_yes retB_noPanic rfl rfl rfl rfl ⟨_, rfl, (decide_eq_false c3)⟩ rfl (ev_fieldAddr rfl) ?_
            refine RS_q_yes retB_noPanic rfl rfl rfl rfl ⟨_, rfl, (decide_eq_false c3)⟩ rfl (ev_load rfl (by repeat' first | exact Ld.blk rfl | assumption | apply Ld.skip | apply Ld.app)) ?_
            refine RS_m_yes retB_noPanic rfl rfl rfl rfl ⟨_, rfl, (decide_eq_false c3)⟩ rfl (ev_gtr rfl rfl) ?_
            refine RS_m retB_noPanic rfl rfl rfl rfl (ev_pick_f rfl (decide_eq_false c3) rfl) ?_
            refine RS_m retB_noPanic rfl rfl rfl rfl (ev_assign rfl) ?_
            refine RS_nil ?_
            (repeat first | refine G_seq ?_ | refine G_skip ?_ | refine G_endblk ?_ | refine G_block ?_ | refine G_exit rfl ?_)
            refine G_cond_t rfl (decide_eq_true (by omega)) ?_
            (repeat first | refine G_seq ?_ | refine G_skip ?_ | refine G_endblk ?_ | refine G_block ?_ | refine G_exit rfl ?_)
            refine G_region ?_
            refine GO_q rfl rfl (ev_assign rfl) ?_
            refine GO_q rfl rfl (ev_assign rfl) ?_
            refine GO_q rfl rfl (ev_assign rfl) ?_
            refine GO_nil ?_
            (repeat first | refine G_seq ?_ | refine G_skip ?_ | refine G_endblk ?_ | refine G_block ?_ | refine G_exit rfl ?_)
            exact G_ret (L' := [] ++ L) rfl (.tmp rfl (.tmp rfl (.tmp rfl .nil))) (by (repeat first | exact fun _ s => s | apply en_keep | apply en_drop | apply en_app) <;> fail) ⟨none, 0, none, 0, [], rfl, rfl, Rd.nil _ _, Rd.nil _ _, Nat.le_refl _, Nat.zero_le _, Nat.le_refl _⟩
    · have co' : (RT.node c q a u v lo hi).out b = false := by simpa using co
      have e1 : (RT.node c q a u v lo hi).ids b = if (RT.node c q a u v lo hi).ins b then srt (idsOf a.pts (a.pts.countP (belowF b.y1)) (a.pts.countP (upToF b.y2))) else [] := if_neg co
      have e2 : (RT.node c q a u v lo hi).nxt b = if (RT.node c q a u v lo hi).ins b then [] else [lo, hi] := if_neg co
      have co2 := co
      simp only [RT.out, decide_eq_true_eq] at co
      unfold LkR
      rw [e1, e2]
      by_cases ci : (RT.node c q a u v lo hi).ins b = true
      · rw [if_pos ci, if_pos ci, srtI_len, hil]
        have ci2 := ci
        simp only [RT.ins, decide_eq_true_eq] at ci
        generalize a.pts.countP (belowF b.y1) = f at *
        generalize a.pts.countP (upToF b.y2) = t at *
        refine Ctr_of (fn := Tryz.f79) (n := 79) Tryz.func79 rfl rfl rfl ?_
        intro g F
        (repeat first | refine G_seq ?_ | refine G_skip ?_ | refine G_endblk ?_ | refine G_block ?_ | refine G_exit rfl ?_)
        refine G_region ?_
        refine GO_eff rfl rfl (eff_box rfl) ?_; rintro _ _ ⟨b2, rfl, rfl⟩
        refine GO_eff rfl rfl (eff_box rfl) ?_; rintro _ _ ⟨b3, rfl, rfl⟩
        refine GO_q rfl rfl (ev_assign rfl) ?_
        refine GO_q rfl rfl (ev_assign rfl) ?_
        refine GO_q rfl rfl (ev_assign rfl) ?_
        refine GO_nil ?_
        (repeat first | refine G_seq ?_ | refine G_skip ?_ | refine G_endblk ?_ | refine G_block ?_ | refine G_exit rfl ?_)
        refine G_draw (.q 0 (.q 1 (.q 2 (.q 3 (.q 4 (.e 5 (.q 6 (.q 7 (.q 8 (.q 9 (.q 10 (.q 11 (.q 12 (.q 13 (.q 14 (.q 15 (.q 16 (.q 17 (.q 18 (.q 19 (.q 20 (.q 21 (.q 22 (.q 23 (.q 24 (.q 25 (.q 26 (.q 27 (.q 28 (.q 29 (.q 30 (.q 31 (.q 32 (.q 33 (.q 34 (.q 35 .nil)))))))))))))))))))))))))))))))))))) (by kernel_rfl) (by kernel_rfl) ?_
        refine RS_m retB_noPanic rfl rfl rfl rfl (ev_fieldAddr rfl) ?_
        refine RS_q retB_noPanic rfl rfl rfl rfl (ev_load rfl (by repeat' first | exact Ld.blk rfl | assumption | apply Ld.skip | apply Ld.app)) ?_
        (first | refine RS_m retB_noPanic rfl rfl rfl rfl (ev_eqlNil rfl rfl) ?_ | refine RS_m retB_noPanic rfl rfl rfl rfl (ev_eqlPtr rfl rfl) ?_)
        refine RS_m retB_noPanic rfl rfl rfl rfl (ev_move rfl) ?_
        refine RS_q_yes retB_noPanic rfl rfl rfl rfl ⟨_, rfl, rfl⟩ rfl (ev_loadN rfl (by repeat' first | exact LdN.blk rfl | assumption | apply LdN.skip | apply LdN.app)) ?_
        refine RS_e (RE_eff_yes rfl rfl rfl ⟨_, rfl, rfl⟩ rfl (eff_call rfl (hsz _)) ?_); rintro _ _ ⟨rfl, rfl⟩; refine ⟨_, fun _ s => s, (by first | ((repeat first | exact fun _ s => s | apply en_keep | apply en_drop | apply en_app) <;> fail) | ((repeat first | exact en_refl | (apply en_blk; focus ((repeat' first | exact Pick.here | apply Pick.skip | apply Pick.app); done); focus rfl) | (apply en_own; focus ((repeat' first | exact Pick.here | apply Pick.skip | apply Pick.app); done); focus rfl) | (apply en_pick; focus ((repeat' first | exact Pick.here | apply Pick.skip | apply Pick.app); done)) | apply en_drop | apply en_app) <;> fail)), ?_⟩
        refine RS_m_yes retB_noPanic rfl rfl rfl rfl ⟨_, rfl, rfl⟩ rfl (ev_eql rfl rfl) ?_
        refine RS_m retB_noPanic rfl rfl rfl rfl (ev_pick_f rfl rfl rfl) ?_
        refine RS_m retB_noPanic rfl rfl rfl rfl (ev_move rfl) ?_
        refine RS_m_yes retB_noPanic rfl rfl rfl rfl ⟨_, rfl, (decide_eq_false (by omega))⟩ rfl (ev_fieldAddr rfl) ?_
        refine RS_q_yes retB_noPanic rfl rfl rfl rfl ⟨_, rfl, (decide_eq_false (by omega))⟩ rfl (ev_load rfl (by repeat' first | exact Ld.blk rfl | assumption | apply Ld.skip | apply Ld.app)) ?_
        refine RS_m_yes retB_noPanic rfl rfl rfl rfl ⟨_, rfl, (decide_eq_false (by omega))⟩ rfl (ev_fieldAddr rfl) ?_
        refine RS_q_yes retB_noPanic rfl rfl rfl rfl ⟨_, rfl, (decide_eq_false (by omega))⟩ rfl (ev_load rfl (by repeat' first | exact Ld.blk rfl | assumption | apply Ld.skip | apply Ld.app)) ?_
        refine RS_m_yes retB_noPanic rfl rfl rfl rfl ⟨_, rfl, (decide_eq_false (by omega))⟩ rfl (ev_gtr rfl rfl) ?_
        refine RS_m retB_noPanic rfl rfl rfl rfl (ev_pick_f rfl (decide_eq_false (by omega)) rfl) ?_
        refine RS_m retB_noPanic rfl rfl rfl rfl (ev_move rfl) ?_
        refine RS_m_yes retB_noPanic rfl rfl rfl rfl ⟨_, rfl, (decide_eq_false (by omega))⟩ rfl (ev_fieldAddr rfl) ?_
        refine RS_q_yes retB_noPanic rfl rfl rfl rfl ⟨_, rfl, (decide_eq_false (by omega))⟩ rfl (ev_load rfl (by repeat' first | exact Ld.blk rfl | assumption | apply Ld.skip | apply Ld.app)) ?_
        (first | refine RS_m_yes retB_noPanic rfl rfl rfl rfl ⟨_, rfl, (decide_eq_false (by omega))⟩ rfl (ev_nilCheck rfl) ?_ | refine RS_m_yes retB_noPanic rfl rfl rfl rfl ⟨_, rfl, (decide_eq_false (by omega))⟩ rfl (ev_nilCheckF (by simp) rfl) ?_)
        refine RS_m_yes retB_noPanic rfl rfl rfl rfl ⟨_, rfl, (decide_eq_false (by omega))⟩ rfl (ev_fieldAddr rfl) ?_
        refine RS_q_yes retB_noPanic rfl rfl rfl rfl ⟨_, rfl, (decide_eq_false (by omega))⟩ rfl (ev_load rfl (by repeat' first | exact Ld.blk rfl | assumption | apply Ld.skip | apply Ld.app)) ?_
        refine RS_m_yes retB_noPanic rfl rfl rfl rfl ⟨_, rfl, (decide_eq_false (by omega))⟩ rfl (ev_fieldAddr rfl) ?_
        refine RS_q_yes retB_noPanic rfl rfl rfl rfl ⟨_, rfl, (decide_eq_false (by omega))⟩ rfl (ev_load rfl (by repeat' first | exact Ld.blk rfl | assumption | apply Ld.skip | apply Ld.app)) ?_
        (first | refine RS_m_yes retB_noPanic rfl rfl rfl rfl ⟨_, rfl, (decide_eq_false (by omega))⟩ rfl (ev_lssN rfl rfl) ?_ | refine RS_m_yes retB_noPanic rfl rfl rfl rfl ⟨_, rfl, (decide_eq_false (by omega))⟩ rfl (ev_lss rfl rfl) ?_)
        refine RS_m retB_noPanic rfl rfl rfl rfl (ev_pick_f rfl (decide_eq_false (by omega)) rfl) ?_
        refine RS_m retB_noPanic rfl rfl rfl rfl (ev_move rfl) ?_
        refine RS_m_yes retB_noPanic rfl rfl rfl rfl ⟨_, rfl, (decide_eq_false (by omega))⟩ rfl (ev_fieldAddr rfl) ?_
        refine RS_q_yes retB_noPanic rfl rfl rfl rfl ⟨_, rfl, (decide_eq_false (by omega))⟩ rfl (ev_load rfl (by repeat' first | exact Ld.blk rfl | assumption | apply Ld.skip | apply Ld.app)) ?_
        (first | refine RS_m_yes retB_noPanic rfl rfl rfl rfl ⟨_, rfl, (decide_eq_false (by omega))⟩ rfl (ev_nilCheck rfl) ?_ | refine RS_m_yes retB_noPanic rfl rfl rfl rfl ⟨_, rfl, (decide_eq_false (by omega))⟩ rfl (ev_nilCheckF (by simp) rfl) ?_)
        refine RS_m_yes retB_noPanic rfl rfl rfl rfl ⟨_, rfl, (decide_eq_false (by omega))⟩ rfl (ev_fieldAddr rfl) ?_
        refine RS_q_yes retB_noPanic rfl rfl rfl rfl ⟨_, rfl, (decide_eq_false (by omega))⟩ rfl (ev_load rfl (by repeat' first | exact Ld.blk rfl | assumption | apply Ld.skip | apply Ld.app)) ?_
        refine RS_m_yes retB_noPanic rfl rfl rfl rfl ⟨_, rfl, (decide_eq_false (by omega))⟩ rfl (ev_fieldAddr rfl) ?_
        refine RS_q_yes retB_noPanic rfl rfl rfl rfl ⟨_, rfl, (decide_eq_false (by omega))⟩ rfl (ev_load rfl (by repeat' first | exact Ld.blk rfl | assumption | apply Ld.skip | apply Ld.app)) ?_
        refine RS_m_yes retB_noPanic rfl rfl rfl rfl ⟨_, rfl, (decide_eq_false (by omega))⟩ rfl (ev_gtr rfl rfl) ?_
        refine RS_m retB_noPanic rfl rfl rfl rfl (ev_pick_f rfl (decide_eq_false (by omega)) rfl) ?_
        refine RS_m retB_noPanic rfl rfl rfl rfl (ev_assign rfl) ?_
        refine RS_nil ?_
        (repeat first | refine G_seq ?_ | refine G_skip ?_ | refine G_endblk ?_ | refine G_block ?_ | refine G_exit rfl ?_)
        refine G_cond_f rfl (decide_eq_false (by omega)) ?_
        (repeat first | refine G_seq ?_ | refine G_skip ?_ | refine G_endblk ?_ | refine G_block ?_ | refine G_exit rfl ?_)
        refine G_draw (.q 0 (.q 1 (.q 2 (.q 3 (.q 4 (.q 5 (.q 6 (.q 7 (.q 8 (.q 9 (.q 10 (.q 11 (.q 12 (.q 13 (.q 14 (.q 15 (.q 16 (.q 17 (.q 18 .nil))))))))))))))))))) (by kernel_rfl) (by kernel_rfl) ?_
        refine RS_m retB_noPanic rfl rfl rfl rfl (ev_fieldAddr rfl) ?_
        refine RS_q retB_noPanic rfl rfl rfl rfl (ev_load rfl (by repeat' first | exact Ld.blk rfl | assumption | apply Ld.skip | apply Ld.app)) ?_
        refine RS_m retB_noPanic rfl rfl rfl rfl (ev_fieldAddr rfl) ?_
        refine RS_q retB_noPanic rfl rfl rfl rfl (ev_load rfl (by repeat' first | exact Ld.blk rfl | assumption | apply Ld.skip | apply Ld.app)) ?_
        (first | refine RS_m retB_noPanic rfl rfl rfl rfl (ev_nilCheck rfl) ?_ | refine RS_m retB_noPanic rfl rfl rfl rfl (ev_nilCheckF (by simp) rfl) ?_)
        refine RS_m retB_noPanic rfl rfl rfl rfl (ev_fieldAddr rfl) ?_
        refine RS_q retB_noPanic rfl rfl rfl rfl (ev_load rfl (by repeat' first | exact Ld.blk rfl | assumption | apply Ld.skip | apply Ld.app)) ?_
        refine RS_m retB_noPanic rfl rfl rfl rfl (ev_leq rfl rfl) ?_
        refine RS_m retB_noPanic rfl rfl rfl rfl (ev_move rfl) ?_
        refine RS_m_yes retB_noPanic rfl rfl rfl rfl ⟨_, rfl, (decide_eq_true ci.1)⟩ rfl (ev_fieldAddr rfl) ?_
        refine RS_q_yes retB_noPanic rfl rfl rfl rfl ⟨_, rfl, (decide_eq_true ci.1)⟩ rfl (ev_load rfl (by repeat' first | exact Ld.blk rfl | assumption | apply Ld.skip | apply Ld.app)) ?_
        (first | refine RS_m_yes retB_noPanic rfl rfl rfl rfl ⟨_, rfl, (decide_eq_true ci.1)⟩ rfl (ev_nilCheck rfl) ?_ | refine RS_m_yes retB_noPanic rfl rfl rfl rfl ⟨_, rfl, (decide_eq_true ci.1)⟩ rfl (ev_nilCheckF (by simp) rfl) ?_)
        refine RS_m_yes retB_noPanic rfl rfl rfl rfl ⟨_, rfl, (decide_eq_true ci.1)⟩ rfl (ev_fieldAddr rfl) ?_
        refine RS_q_yes retB_noPanic rfl rfl rfl rfl ⟨_, rfl, (decide_eq_true ci.1)⟩ rfl (ev_load rfl (by repeat' first | exact Ld.blk rfl | assumption | apply Ld.skip | apply Ld.app)) ?_
        refine RS_m_yes retB_noPanic rfl rfl rfl rfl ⟨_, rfl, (decide_eq_true ci.1)⟩ rfl (ev_fieldAddr rfl) ?_
        refine RS_q_yes retB_noPanic rfl rfl rfl rfl ⟨_, rfl, (decide_eq_true ci.1)⟩ rfl (ev_load rfl (by repeat' first | exact Ld.blk rfl | assumption | apply Ld.skip | apply Ld.app)) ?_
        refine RS_m_yes retB_noPanic rfl rfl rfl rfl ⟨_, rfl, (decide_eq_true ci.1)⟩ rfl (ev_leq rfl rfl) ?_
        refine RS_m retB_noPanic rfl rfl rfl rfl (ev_pick_t rfl (decide_eq_true ci.1) rfl) ?_
        refine RS_m retB_noPanic rfl rfl rfl rfl (ev_assign rfl) ?_
        refine RS_nil ?_
        (repeat first | refine G_seq ?_ | refine G_skip ?_ | refine G_endblk ?_ | refine G_block ?_ | refine G_exit rfl ?_)
        refine G_cond_t rfl (decide_eq_true ci.2) ?_
        (repeat first | refine G_seq ?_ | refine G_skip ?_ | refine G_endblk ?_ | refine G_block ?_ | refine G_exit rfl ?_)
        refine G_draw (.q 0 (.q 1 (.q 2 (.q 3 (.q 4 (.q 5 (.q 6 (.q 7 (.q 8 (.q 10 (.e 9 (.e 11 (.q 12 (.q 13 (.q 14 .nil))))))))))))))) (by kernel_rfl) (by kernel_rfl) ?_
        refine RS_m retB_noPanic rfl rfl rfl rfl (ev_fieldAddr rfl) ?_
        refine RS_q retB_noPanic rfl rfl rfl rfl (ev_load rfl (by repeat' first | exact Ld.blk rfl | assumption | apply Ld.skip | apply Ld.app)) ?_
        (first | refine RS_m retB_noPanic rfl rfl rfl rfl (ev_nilCheck rfl) ?_ | refine RS_m retB_noPanic rfl rfl rfl rfl (ev_nilCheckF (by simp) rfl) ?_)
        refine RS_m retB_noPanic rfl rfl rfl rfl (ev_fieldAddr rfl) ?_
        refine RS_q retB_noPanic rfl rfl rfl rfl (ev_load rfl (by repeat' first | exact Ld.blk rfl | assumption | apply Ld.skip | apply Ld.app)) ?_
        refine RS_m retB_noPanic rfl rfl rfl rfl (ev_fieldAddr rfl) ?_
        refine RS_q retB_noPanic rfl rfl rfl rfl (ev_load rfl (by repeat' first | exact Ld.blk rfl | assumption | apply Ld.skip | apply Ld.app)) ?_
        refine RS_m retB_noPanic rfl rfl rfl rfl (ev_fieldAddr rfl) ?_
        refine RS_q retB_noPanic rfl rfl rfl rfl (ev_load rfl (by repeat' first | exact Ld.blk rfl | assumption | apply Ld.skip | apply Ld.app)) ?_
        refine RS_q retB_noPanic rfl rfl rfl rfl (ev_loadN rfl (by repeat' first | exact LdN.blk rfl | assumption | apply LdN.skip | apply LdN.app)) ?_
        refine RS_e (RE_eff rfl rfl rfl (eff_call rfl (Ctr.frame [_, _, _] (hids L ha) (fun _ s => s))) ?_); rintro _ _ ⟨L1, ⟨A1, c1, N1, rfl, m1, m2, rfl, m3⟩, rfl⟩; refine ⟨_, fun _ s => s, (by first | ((repeat first | exact fun _ s => s | apply en_keep | apply en_drop | apply en_app) <;> fail) | ((repeat first | exact en_refl | (apply en_blk; focus ((repeat' first | exact Pick.here | apply Pick.skip | apply Pick.app); done); focus rfl) | (apply en_own; focus ((repeat' first | exact Pick.here | apply Pick.skip | apply Pick.app); done); focus rfl) | (apply en_pick; focus ((repeat' first | exact Pick.here | apply Pick.skip | apply Pick.app); done)) | apply en_drop | apply en_app) <;> fail)), ?_⟩
        refine RS_e (RE_eff rfl rfl rfl (eff_call rfl (hsz _)) ?_); rintro _ _ ⟨rfl, rfl⟩; refine ⟨_, fun _ s => s, (by first | ((repeat first | exact fun _ s => s | apply en_keep | apply en_drop | apply en_app) <;> fail) | ((repeat first | exact en_refl | (apply en_blk; focus ((repeat' first | exact Pick.here | apply Pick.skip | apply Pick.app); done); focus rfl) | (apply en_own; focus ((repeat' first | exact Pick.here | apply Pick.skip | apply Pick.app); done); focus rfl) | (apply en_pick; focus ((repeat' first | exact Pick.here | apply Pick.skip | apply Pick.app); done)) | apply en_drop | apply en_app) <;> fail)), ?_⟩
        refine RS_m retB_noPanic rfl rfl rfl rfl (ev_assign rfl) ?_
        refine RS_m retB_noPanic rfl rfl rfl rfl (ev_assign rfl) ?_
        refine RS_m retB_noPanic rfl rfl rfl rfl (ev_assign rfl) ?_
        refine RS_nil ?_
        (repeat first | refine G_seq ?_ | refine G_skip ?_ | refine G_endblk ?_ | refine G_block ?_ | refine G_exit rfl ?_)
        exact G_ret (L' := N1 ++ L) rfl (.tmp rfl (.tmp rfl (.tmp rfl .nil))) (by (repeat first | exact fun _ s => s | apply en_keep | apply en_drop | apply en_app) <;> fail) ⟨A1, c1, none, 0, N1, rfl, rfl, m3, Rd.nil _ _, m1, m2, Nat.le_refl _⟩
      · rw [if_neg ci, if_neg ci]
        have ci2 : (RT.node c q a u v lo hi).ins b = false := by simpa using ci
        obtain ⟨j1, j2, j3⟩ := hj co' ci2
        have o1 := j1.ok.1
        have o2 := j2.ok.1
        have d1 := fun high => lead_join (belowF_falls b.y1) lo.arr hi.arr o1 o2 high
        have d2 := fun high => lead_join (upToF_falls b.y2) lo.arr hi.arr o1 o2 high
        rw [← j3] at d1 d2
        simp only [RT.ins, decide_eq_true_eq] at ci
        have hf1 := hh true
        have hf2 := hh false
        rw [d1, d2] at hf1 hf2
        generalize a.pts.countP (belowF b.y1) = f at *
        generalize a.pts.countP (upToF b.y2) = t at *
        have hrd : ∀ (X : Nat) (M : List HP), Rd (blk X 75 [.pointer lo.addr, .int .i64 (lo.arr.pts.countP (belowF b.y1) : Nat), .int .i64 (lo.arr.pts.countP (upToF b.y2) : Nat), .pointer hi.addr, .int .i64 (hi.arr.pts.countP (belowF b.y1) : Nat), .int .i64 (hi.arr.pts.countP (upToF b.y2) : Nat)] :: M) (some ⟨X, 0, none⟩) 2 (partsR b [lo, hi]) := fun X M => Rc.blk rfl
        refine Ctr_of (fn := Tryz.f79) (n := 79) Tryz.func79 rfl rfl rfl ?_
        intro g F
        (repeat first | refine G_seq ?_ | refine G_skip ?_ | refine G_endblk ?_ | refine G_block ?_ | refine G_exit rfl ?_)
        refine G_region ?_
        refine GO_eff rfl rfl (eff_box rfl) ?_; rintro _ _ ⟨b2, rfl, rfl⟩
        refine GO_eff rfl rfl (eff_box rfl) ?_; rintro _ _ ⟨b3, rfl, rfl⟩
        refine GO_q rfl rfl (ev_assign rfl) ?_
        refine GO_q rfl rfl (ev_assign rfl) ?_
        refine GO_q rfl rfl (ev_assign rfl) ?_
        refine GO_nil ?_
        (repeat first | refine G_seq ?_ | refine G_skip ?_ | refine G_endblk ?_ | refine G_block ?_ | refine G_exit rfl ?_)
        refine G_draw (.q 0 (.q 1 (.q 2 (.q 3 (.q 4 (.e 5 (.q 6 (.q 7 (.q 8 (.q 9 (.q 10 (.q 11 (.q 12 (.q 13 (.q 14 (.q 15 (.q 16 (.q 17 (.q 18 (.q 19 (.q 20 (.q 21 (.q 22 (.q 23 (.q 24 (.q 25 (.q 26 (.q 27 (.q 28 (.q 29 (.q 30 (.q 31 (.q 32 (.q 33 (.q 34 (.q 35 .nil)))))))))))))))))))))))))))))))))))) (by kernel_rfl) (by kernel_rfl) ?_
        refine RS_m retB_noPanic rfl rfl rfl rfl (ev_fieldAddr rfl) ?_
        refine RS_q retB_noPanic rfl rfl rfl rfl (ev_load rfl (by repeat' first | exact Ld.blk rfl | assumption | apply Ld.skip | apply Ld.app)) ?_
        (first | refine RS_m retB_noPanic rfl rfl rfl rfl (ev_eqlNil rfl rfl) ?_ | refine RS_m retB_noPanic rfl rfl rfl rfl (ev_eqlPtr rfl rfl) ?_)
        refine RS_m retB_noPanic rfl rfl rfl rfl (ev_move rfl) ?_
        refine RS_q_yes retB_noPanic rfl rfl rfl rfl ⟨_, rfl, rfl⟩ rfl (ev_loadN rfl (by repeat' first | exact LdN.blk rfl | assumption | apply LdN.skip | apply LdN.app)) ?_
        refine RS_e (RE_eff_yes rfl rfl rfl ⟨_, rfl, rfl⟩ rfl (eff_call rfl (hsz _)) ?_); rintro _ _ ⟨rfl, rfl⟩; refine ⟨_, fun _ s => s, (by first | ((repeat first | exact fun _ s => s | apply en_keep | apply en_drop | apply en_app) <;> fail) | ((repeat first | exact en_refl | (apply en_blk; focus ((repeat' first | exact Pick.here | apply Pick.skip | apply Pick.app); done); focus rfl) | (apply en_own; focus ((repeat' first | exact Pick.here | apply Pick.skip | apply Pick.app); done); focus rfl) | (apply en_pick; focus ((repeat' first | exact Pick.here | apply Pick.skip | apply Pick.app); done)) | apply en_drop | apply en_app) <;> fail)), ?_⟩
        refine RS_m_yes retB_noPanic rfl rfl rfl rfl ⟨_, rfl, rfl⟩ rfl (ev_eql rfl rfl) ?_
        refine RS_m retB_noPanic rfl rfl rfl rfl (ev_pick_f rfl rfl rfl) ?_
        refine RS_m retB_noPanic rfl rfl rfl rfl (ev_move rfl) ?_
        refine RS_m_yes retB_noPanic rfl rfl rfl rfl ⟨_, rfl, (decide_eq_false (by omega))⟩ rfl (ev_fieldAddr rfl) ?_
        refine RS_q_yes retB_noPanic rfl rfl rfl rfl ⟨_, rfl, (decide_eq_false (by omega))⟩ rfl (ev_load rfl (by repeat' first | exact Ld.blk rfl | assumption | apply Ld.skip | apply Ld.app)) ?_
        refine RS_m_yes retB_noPanic rfl rfl rfl rfl ⟨_, rfl, (decide_eq_false (by omega))⟩ rfl (ev_fieldAddr rfl) ?_
        refine RS_q_yes retB_noPanic rfl rfl rfl rfl ⟨_, rfl, (decide_eq_false (by omega))⟩ rfl (ev_load rfl (by repeat' first | exact Ld.blk rfl | assumption | apply Ld.skip | apply Ld.app)) ?_
        refine RS_m_yes retB_noPanic rfl rfl rfl rfl ⟨_, rfl, (decide_eq_false (by omega))⟩ rfl (ev_gtr rfl rfl) ?_
        refine RS_m retB_noPanic rfl rfl rfl rfl (ev_pick_f rfl (decide_eq_false (by omega)) rfl) ?_
        refine RS_m retB_noPanic rfl rfl rfl rfl (ev_move rfl) ?_
        refine RS_m_yes retB_noPanic rfl rfl rfl rfl ⟨_, rfl, (decide_eq_false (by omega))⟩ rfl (ev_fieldAddr rfl) ?_
        refine RS_q_yes retB_noPanic rfl rfl rfl rfl ⟨_, rfl, (decide_eq_false (by omega))⟩ rfl (ev_load rfl (by repeat' first | exact Ld.blk rfl | assumption | apply Ld.skip | apply Ld.app)) ?_
        (first | refine RS_m_yes retB_noPanic rfl rfl rfl rfl ⟨_, rfl, (decide_eq_false (by omega))⟩ rfl (ev_nilCheck rfl) ?_ | refine RS_m_yes retB_noPanic rfl rfl rfl rfl ⟨_, rfl, (decide_eq_false (by omega))⟩ rfl (ev_nilCheckF (by simp) rfl) ?_)
        refine RS_m_yes retB_noPanic rfl rfl rfl rfl ⟨_, rfl, (decide_eq_false (by omega))⟩ rfl (ev_fieldAddr rfl) ?_
        refine RS_q_yes retB_noPanic rfl rfl rfl rfl ⟨_, rfl, (decide_eq_false (by omega))⟩ rfl (ev_load rfl (by repeat' first | exact Ld.blk rfl | assumption | apply Ld.skip | apply Ld.app)) ?_
        refine RS_m_yes retB_noPanic rfl rfl rfl rfl ⟨_, rfl, (decide_eq_false (by omega))⟩ rfl (ev_fieldAddr rfl) ?_
        refine RS_q_yes retB_noPanic rfl rfl rfl rfl ⟨_, rfl, (decide_eq_false (by omega))⟩ rfl (ev_load rfl (by repeat' first | exact Ld.blk rfl | assumption | apply Ld.skip | apply Ld.app)) ?_
        (first | refine RS_m_yes retB_noPanic rfl rfl rfl rfl ⟨_, rfl, (decide_eq_false (by omega))⟩ rfl (ev_lssN rfl rfl) ?_ | refine RS_m_yes retB_noPanic rfl rfl rfl rfl ⟨_, rfl, (decide_eq_false (by omega))⟩ rfl (ev_lss rfl rfl) ?_)
        refine RS_m retB_noPanic rfl rfl rfl rfl (ev_pick_f rfl (decide_eq_false (by omega)) rfl) ?_
        refine RS_m retB_noPanic rfl rfl rfl rfl (ev_move rfl) ?_
        refine RS_m_yes retB_noPanic rfl rfl rfl rfl ⟨_, rfl, (decide_eq_false (by omega))⟩ rfl (ev_fieldAddr rfl) ?_
        refine RS_q_yes retB_noPanic rfl rfl rfl rfl ⟨_, rfl, (decide_eq_false (by omega))⟩ rfl (ev_load rfl (by repeat' first | exact Ld.blk rfl | assumption | apply Ld.skip | apply Ld.app)) ?_
        (first | refine RS_m_yes retB_noPanic rfl rfl rfl rfl ⟨_, rfl, (decide_eq_false (by omega))⟩ rfl (ev_nilCheck rfl) ?_ | refine RS_m_yes retB_noPanic rfl rfl rfl rfl ⟨_, rfl, (decide_eq_false (by omega))⟩ rfl (ev_nilCheckF (by simp) rfl) ?_)
        refine RS_m_yes retB_noPanic rfl rfl rfl rfl ⟨_, rfl, (decide_eq_false (by omega))⟩ rfl (ev_fieldAddr rfl) ?_
        refine RS_q_yes retB_noPanic rfl rfl rfl rfl ⟨_, rfl, (decide_eq_false (by omega))⟩ rfl (ev_load rfl (by repeat' first | exact Ld.blk rfl | assumption | apply Ld.skip | apply Ld.app)) ?_
        refine RS_m_yes retB_noPanic rfl rfl rfl rfl ⟨_, rfl, (decide_eq_false (by omega))⟩ rfl (ev_fieldAddr rfl) ?_
        refine RS_q_yes retB_noPanic rfl rfl rfl rfl ⟨_, rfl, (decide_eq_false (by omega))⟩ rfl (ev_load rfl (by repeat' first | exact Ld.blk rfl | assumption | apply Ld.skip | apply Ld.app)) ?_
        refine RS_m_yes retB_noPanic rfl rfl rfl rfl ⟨_, rfl, (decide_eq_false (by omega))⟩ rfl (ev_gtr rfl rfl) ?_
        refine RS_m retB_noPanic rfl rfl rfl rfl (ev_pick_f rfl (decide_eq_false (by omega)) rfl) ?_
        refine RS_m retB_noPanic rfl rfl rfl rfl (ev_assign rfl) ?_
        refine RS_nil ?_
        (repeat first | refine G_seq ?_ | refine G_skip ?_ | refine G_endblk ?_ | refine G_block ?_ | refine G_exit rfl ?_)
        refine G_cond_f rfl (decide_eq_false (by omega)) ?_
        by_cases c4 : b.x1 ≤ u
        · (repeat first | refine G_seq ?_ | refine G_skip ?_ | refine G_endblk ?_ | refine G_block ?_ | refine G_exit rfl ?_)
          refine G_draw (.q 0 (.q 1 (.q 2 (.q 3 (.q 4 (.q 5 (.q 6 (.q 7 (.q 8 (.q 9 (.q 10 (.q 11 (.q 12 (.q 13 (.q 14 (.q 15 (.q 16 (.q 17 (.q 18 .nil))))))))))))))))))) (by kernel_rfl) (by kernel_rfl) ?_
          refine RS_m retB_noPanic rfl rfl rfl rfl (ev_fieldAddr rfl) ?_
          refine RS_q retB_noPanic rfl rfl rfl rfl (ev_load rfl (by repeat' first | exact Ld.blk rfl | assumption | apply Ld.skip | apply Ld.app)) ?_
          refine RS_m retB_noPanic rfl rfl rfl rfl (ev_fieldAddr rfl) ?_
          refine RS_q retB_noPanic rfl rfl rfl rfl (ev_load rfl (by repeat' first | exact Ld.blk rfl | assumption | apply Ld.skip | apply Ld.app)) ?_
          (first | refine RS_m retB_noPanic rfl rfl rfl rfl (ev_nilCheck rfl) ?_ | refine RS_m retB_noPanic rfl rfl rfl rfl (ev_nilCheckF (by simp) rfl) ?_)
          refine RS_m retB_noPanic rfl rfl rfl rfl (ev_fieldAddr rfl) ?_
          refine RS_q retB_noPanic rfl rfl rfl rfl (ev_load rfl (by repeat' first | exact Ld.blk rfl | assumption | apply Ld.skip | apply Ld.app)) ?_
          refine RS_m retB_noPanic rfl rfl rfl rfl (ev_leq rfl rfl) ?_
          refine RS_m retB_noPanic rfl rfl rfl rfl (ev_move rfl) ?_
          refine RS_m_yes retB_noPanic rfl rfl rfl rfl ⟨_, rfl, (decide_eq_true c4)⟩ rfl (ev_fieldAddr rfl) ?_
          refine RS_q_yes retB_noPanic rfl rfl rfl rfl ⟨_, rfl, (decide_eq_true c4)⟩ rfl (ev_load rfl (by repeat' first | exact Ld.blk rfl | assumption | apply Ld.skip | apply Ld.app)) ?_
          (first | refine RS_m_yes retB_noPanic rfl rfl rfl rfl ⟨_, rfl, (decide_eq_true c4)⟩ rfl (ev_nilCheck rfl) ?_ | refine RS_m_yes retB_noPanic rfl rfl rfl rfl ⟨_, rfl, (decide_eq_true c4)⟩ rfl (ev_nilCheckF (by simp) rfl) ?_)
          refine RS_m_yes retB_noPanic rfl rfl rfl rfl ⟨_, rfl, (decide_eq_true c4)⟩ rfl (ev_fieldAddr rfl) ?_
          refine RS_q_yes retB_noPanic rfl rfl rfl rfl ⟨_, rfl, (decide_eq_true c4)⟩ rfl (ev_load rfl (by repeat' first | exact Ld.blk rfl | assumption | apply Ld.skip | apply Ld.app)) ?_
          refine RS_m_yes retB_noPanic rfl rfl rfl rfl ⟨_, rfl, (decide_eq_true c4)⟩ rfl (ev_fieldAddr rfl) ?_
          refine RS_q_yes retB_noPanic rfl rfl rfl rfl ⟨_, rfl, (decide_eq_true c4)⟩ rfl (ev_load rfl (by repeat' first | exact Ld.blk rfl | assumption | apply Ld.skip | apply Ld.app)) ?_
          refine RS_m_yes retB_noPanic rfl rfl rfl rfl ⟨_, rfl, (decide_eq_true c4)⟩ rfl (ev_leq rfl rfl) ?_
          refine RS_m retB_noPanic rfl rfl rfl rfl (ev_pick_t rfl (decide_eq_true c4) rfl) ?_
          refine RS_m retB_noPanic rfl rfl rfl rfl (ev_assign rfl) ?_
          refine RS_nil ?_
          (repeat first | refine G_seq ?_ | refine G_skip ?_ | refine G_endblk ?_ | refine G_block ?_ | refine G_exit rfl ?_)
          refine G_cond_f rfl (decide_eq_false (by omega)) ?_
          (repeat first | refine G_seq ?_ | refine G_skip ?_ | refine G_endblk ?_ | refine G_block ?_ | refine G_exit rfl ?_)
          refine G_draw (.q 0 (.q 2 (.e 1 (.e 3 (.q 5 (.q 6 (.e 4 (.q 7 .nil)))))))) (by kernel_rfl) (by kernel_rfl) ?_
          refine RS_q retB_noPanic rfl rfl rfl rfl (ev_loadN rfl (by repeat' first | exact LdN.blk rfl | assumption | apply LdN.skip | apply LdN.app)) ?_
          refine RS_q retB_noPanic rfl rfl rfl rfl (ev_loadN rfl (by repeat' first | exact LdN.blk rfl | assumption | apply LdN.skip | apply LdN.app)) ?_
          refine RS_e (RE_eff rfl rfl rfl (eff_call rfl (hf2 _ (by repeat' first | exact h | apply RIn.skip))) ?_); rintro _ _ ⟨rfl, rfl⟩; refine ⟨_, fun _ s => s, (by first | ((repeat first | exact fun _ s => s | apply en_keep | apply en_drop | apply en_app) <;> fail) | ((repeat first | exact en_refl | (apply en_blk; focus ((repeat' first | exact Pick.here | apply Pick.skip | apply Pick.app); done); focus rfl) | (apply en_own; focus ((repeat' first | exact Pick.here | apply Pick.skip | apply Pick.app); done); focus rfl) | (apply en_pick; focus ((repeat' first | exact Pick.here | apply Pick.skip | apply Pick.app); done)) | apply en_drop | apply en_app) <;> fail)), ?_⟩
          refine RS_e (RE_eff rfl rfl rfl (eff_call rfl (hf1 _ (by repeat' first | exact h | apply RIn.skip))) ?_); rintro _ _ ⟨rfl, rfl⟩; refine ⟨_, fun _ s => s, (by first | ((repeat first | exact fun _ s => s | apply en_keep | apply en_drop | apply en_app) <;> fail) | ((repeat first | exact en_refl | (apply en_blk; focus ((repeat' first | exact Pick.here | apply Pick.skip | apply Pick.app); done); focus rfl) | (apply en_own; focus ((repeat' first | exact Pick.here | apply Pick.skip | apply Pick.app); done); focus rfl) | (apply en_pick; focus ((repeat' first | exact Pick.here | apply Pick.skip | apply Pick.app); done)) | apply en_drop | apply en_app) <;> fail)), ?_⟩
          refine RS_m retB_noPanic rfl rfl rfl rfl (ev_assign rfl) ?_
          refine RS_m retB_noPanic rfl rfl rfl rfl (ev_assign rfl) ?_
          refine RS_e (RE_eff rfl rfl rfl (eff_buildSliceN (by rfl) rfl rfl) ?_); rintro _ _ ⟨b78, rfl, rfl⟩; refine ⟨_, fun _ s => s, (by first | ((repeat first | exact fun _ s => s | apply en_keep | apply en_drop | apply en_app) <;> fail) | ((repeat first | exact en_refl | (apply en_blk; focus ((repeat' first | exact Pick.here | apply Pick.skip | apply Pick.app); done); focus rfl) | (apply en_own; focus ((repeat' first | exact Pick.here | apply Pick.skip | apply Pick.app); done); focus rfl) | (apply en_pick; focus ((repeat' first | exact Pick.here | apply Pick.skip | apply Pick.app); done)) | apply en_drop | apply en_app) <;> fail)), ?_⟩
          refine RS_m retB_noPanic rfl rfl rfl rfl (ev_assign rfl) ?_
          refine RS_nil ?_
          (repeat first | refine G_seq ?_ | refine G_skip ?_ | refine G_endblk ?_ | refine G_block ?_ | refine G_exit rfl ?_)
          exact G_ret (L' := blk b78 75 [.pointer lo.addr, .int .i64 (lo.arr.pts.countP (belowF b.y1) : Nat), .int .i64 (lo.arr.pts.countP (upToF b.y2) : Nat), .pointer hi.addr, .int .i64 (hi.arr.pts.countP (belowF b.y1) : Nat), .int .i64 (hi.arr.pts.countP (upToF b.y2) : Nat)] :: L) rfl (.tmp rfl (.tmp rfl (.tmp rfl .nil))) (by (repeat first | exact en_refl | (apply en_blk; focus ((repeat' first | exact Pick.here | apply Pick.skip | apply Pick.app); done); focus rfl) | (apply en_own; focus ((repeat' first | exact Pick.here | apply Pick.skip | apply Pick.app); done); focus rfl) | (apply en_pick; focus ((repeat' first | exact Pick.here | apply Pick.skip | apply Pick.app); done)) | apply en_drop | apply en_app) <;> fail) ⟨none, 0, some ⟨b78, 0, none⟩, 2, [blk b78 75 [.pointer lo.addr, .int .i64 (lo.arr.pts.countP (belowF b.y1) : Nat), .int .i64 (lo.arr.pts.countP (upToF b.y2) : Nat), .pointer hi.addr, .int .i64 (hi.arr.pts.countP (belowF b.y1) : Nat), .int .i64 (hi.arr.pts.countP (upToF b.y2) : Nat)]], rfl, rfl, Rd.nil _ _, hrd _ _, Nat.le_refl _, Nat.zero_le _, Nat.le_refl _⟩
        · (repeat first | refine G_seq ?_ | refine G_skip ?_ | refine G_endblk ?_ | refine G_block ?_ | refine G_exit rfl ?_)
          refine G_draw (.q 0 (.q 1 (.q 2 (.q 3 (.q 4 (.q 5 (.q 6 (.q 7 (.q 8 (.q 9 (.q 10 (.q 11 (.q 12 (.q 13 (.q 14 (.q 15 (.q 16 (.q 17 (.q 18 .nil))))))))))))))))))) (by kernel_rfl) (by kernel_rfl) ?_
          refine RS_m retB_noPanic rfl rfl rfl rfl (ev_fieldAddr rfl) ?_
          refine RS_q retB_noPanic rfl rfl rfl rfl (ev_load rfl (by repeat' first | exact Ld.blk rfl | assumption | apply Ld.skip | apply Ld.app)) ?_
          refine RS_m retB_noPanic rfl rfl rfl rfl (ev_fieldAddr rfl) ?_
          refine RS_q retB_noPanic rfl rfl rfl rfl (ev_load rfl (by repeat' first | exact Ld.blk rfl | assumption | apply Ld.skip | apply Ld.app)) ?_
          (first | refine RS_m retB_noPanic rfl rfl rfl rfl (ev_nilCheck rfl) ?_ | refine RS_m retB_noPanic rfl rfl rfl rfl (ev_nilCheckF (by simp) rfl) ?_)
          refine RS_m retB_noPanic rfl rfl rfl rfl (ev_fieldAddr rfl) ?_
          refine RS_q retB_noPanic rfl rfl rfl rfl (ev_load rfl (by repeat' first | exact Ld.blk rfl | assumption | apply Ld.skip | apply Ld.app)) ?_
          refine RS_m retB_noPanic rfl rfl rfl rfl (ev_leq rfl rfl) ?_
          refine RS_m retB_noPanic rfl rfl rfl rfl (ev_move rfl) ?_
          refine RS_q_no retB_noPanic rfl rfl rfl ⟨_, rfl, (decide_eq_false c4)⟩ rfl ?_
          refine RS_q_no retB_noPanic rfl rfl rfl ⟨_, rfl, (decide_eq_false c4)⟩ rfl ?_
          refine RS_q_no retB_noPanic rfl rfl rfl ⟨_, rfl, (decide_eq_false c4)⟩ rfl ?_
          refine RS_q_no retB_noPanic rfl rfl rfl ⟨_, rfl, (decide_eq_false c4)⟩ rfl ?_
          refine RS_q_no retB_noPanic rfl rfl rfl ⟨_, rfl, (decide_eq_false c4)⟩ rfl ?_
          refine RS_q_no retB_noPanic rfl rfl rfl ⟨_, rfl, (decide_eq_false c4)⟩ rfl ?_
          refine RS_q_no retB_noPanic rfl rfl rfl ⟨_, rfl, (decide_eq_false c4)⟩ rfl ?_
          refine RS_q_no retB_noPanic rfl rfl rfl ⟨_, rfl, (decide_eq_false c4)⟩ rfl ?_
          refine RS_m retB_noPanic rfl rfl rfl rfl (ev_pick_f rfl (decide_eq_false c4) rfl) ?_
          refine RS_m retB_noPanic rfl rfl rfl rfl (ev_assign rfl) ?_
          refine RS_nil ?_
          (repeat first | refine G_seq ?_ | refine G_skip ?_ | refine G_endblk ?_ | refine G_block ?_ | refine G_exit rfl ?_)
          refine G_cond_f rfl rfl ?_
          (repeat first | refine G_seq ?_ | refine G_skip ?_ | refine G_endblk ?_ | refine G_block ?_ | refine G_exit rfl ?_)
          refine G_draw (.q 0 (.q 2 (.e 1 (.e 3 (.q 5 (.q 6 (.e 4 (.q 7 .nil)))))))) (by kernel_rfl) (by kernel_rfl) ?_
          refine RS_q retB_noPanic rfl rfl rfl rfl (ev_loadN rfl (by repeat' first | exact LdN.blk rfl | assumption | apply LdN.skip | apply LdN.app)) ?_
          refine RS_q retB_noPanic rfl rfl rfl rfl (ev_loadN rfl (by repeat' first | exact LdN.blk rfl | assumption | apply LdN.skip | apply LdN.app)) ?_
          refine RS_e (RE_eff rfl rfl rfl (eff_call rfl (hf2 _ (by repeat' first | exact h | apply RIn.skip))) ?_); rintro _ _ ⟨rfl, rfl⟩; refine ⟨_, fun _ s => s, (by first | ((repeat first | exact fun _ s => s | apply en_keep | apply en_drop | apply en_app) <;> fail) | ((repeat first | exact en_refl | (apply en_blk; focus ((repeat' first | exact Pick.here | apply Pick.skip | apply Pick.app); done); focus rfl) | (apply en_own; focus ((repeat' first | exact Pick.here | apply Pick.skip | apply Pick.app); done); focus rfl) | (apply en_pick; focus ((repeat' first | exact Pick.here | apply Pick.skip | apply Pick.app); done)) | apply en_drop | apply en_app) <;> fail)), ?_⟩
          refine RS_e (RE_eff rfl rfl rfl (eff_call rfl (hf1 _ (by repeat' first | exact h | apply RIn.skip))) ?_); rintro _ _ ⟨rfl, rfl⟩; refine ⟨_, fun _ s => s, (by first | ((repeat first | exact fun _ s => s | apply en_keep | apply en_drop | apply en_app) <;> fail) | ((repeat first | exact en_refl | (apply en_blk; focus ((repeat' first | exact Pick.here | apply Pick.skip | apply Pick.app); done); focus rfl) | (apply en_own; focus ((repeat' first | exact Pick.here | apply Pick.skip | apply Pick.app); done); focus rfl) | (apply en_pick; focus ((repeat' first | exact Pick.here | apply Pick.skip | apply Pick.app); done)) | apply en_drop | apply en_app) <;> fail)), ?_⟩
          refine RS_m retB_noPanic rfl rfl rfl rfl (ev_assign rfl) ?_
          refine RS_m retB_noPanic rfl rfl rfl rfl (ev_assign rfl) ?_
          refine RS_e (RE_eff rfl rfl rfl (eff_buildSliceN (by rfl) rfl rfl) ?_); rintro _ _ ⟨b78, rfl, rfl⟩; refine ⟨_, fun _ s => s, (by first | ((repeat first | exact fun _ s => s | apply en_keep | apply en_drop | apply en_app) <;> fail) | ((repeat first | exact en_refl | (apply en_blk; focus ((repeat' first | exact Pick.here | apply Pick.skip | apply Pick.app); done); focus rfl) | (apply en_own; focus ((repeat' first | exact Pick.here | apply Pick.skip | apply Pick.app); done); focus rfl) | (apply en_pick; focus ((repeat' first | exact Pick.here | apply Pick.skip | apply Pick.app); done)) | apply en_drop | apply en_app) <;> fail)), ?_⟩
          refine RS_m retB_noPanic rfl rfl rfl rfl (ev_assign rfl) ?_
          refine RS_nil ?_
          (repeat first | refine G_seq ?_ | refine G_skip ?_ | refine G_endblk ?_ | refine G_block ?_ | refine G_exit rfl ?_)
          exact G_ret (L' := blk b78 75 [.pointer lo.addr, .int .i64 (lo.arr.pts.countP (belowF b.y1) : Nat), .int .i64 (lo.arr.pts.countP (upToF b.y2) : Nat), .pointer hi.addr, .int .i64 (hi.arr.pts.countP (belowF b.y1) : Nat), .int .i64 (hi.arr.pts.countP (upToF b.y2) : Nat)] :: L) rfl (.tmp rfl (.tmp rfl (.tmp rfl .nil))) (by (repeat first | exact en_refl | (apply en_blk; focus ((repeat' first | exact Pick.here | apply Pick.skip | apply Pick.app); done); focus rfl) | (apply en_own; focus ((repeat' first | exact Pick.here | apply Pick.skip | apply Pick.app); done); focus rfl) | (apply en_pick; focus ((repeat' first | exact Pick.here | apply Pick.skip | apply Pick.app); done)) | apply en_drop | apply en_app) <;> fail) ⟨none, 0, some ⟨b78, 0, none⟩, 2, [blk b78 75 [.pointer lo.addr, .int .i64 (lo.arr.pts.countP (belowF b.y1) : Nat), .int .i64 (lo.arr.pts.countP (upToF b.y2) : Nat), .pointer hi.addr, .int .i64 (hi.arr.pts.countP (belowF b.y1) : Nat), .int .i64 (hi.arr.pts.countP (upToF b.y2) : Nat)]], rfl, rfl, Rd.nil _ _, hrd _ _, Nat.le_refl _, Nat.zero_le _, Nat.le_refl _⟩
theorem pLook_ctr (T : RT) (b : Bx) (l : List Pt) (L : List HP) (h : RIn L T) (ho : T.of l) (hn : l.length ≤ 100000) :
    Ctr Tryz.prog 60 #[.agg #[.pointer T.addr, .int .i64 (T.arr.pts.countP (belowF b.y1) : Nat), .int .i64 (T.arr.pts.countP (upToF b.y2) : Nat)], .agg #[.int .i64 b.x1, .int .i64 b.x2, .int .i64 b.y1, .int .i64 b.y2]] L fun r L' => LkR b T L r L' := by
  refine Ctr_of (fn := Tryz.f60) (n := 13) Tryz.func60 rfl rfl rfl ?_
  intro g F
  (repeat first | refine G_seq ?_ | refine G_skip ?_ | refine G_endblk ?_ | refine G_block ?_ | refine G_exit rfl ?_)
  refine G_region ?_
  refine GO_eff rfl rfl (eff_box rfl) ?_; rintro _ _ ⟨b2, rfl, rfl⟩
  refine GO_eff rfl rfl (eff_box rfl) ?_; rintro _ _ ⟨b3, rfl, rfl⟩
  refine GO_q rfl rfl (ev_assign rfl) ?_
  refine GO_q rfl rfl (ev_assign rfl) ?_
  refine GO_q rfl rfl (ev_assign rfl) ?_
  refine GO_nil ?_
  (repeat first | refine G_seq ?_ | refine G_skip ?_ | refine G_endblk ?_ | refine G_block ?_ | refine G_exit rfl ?_)
  refine G_region ?_
  refine GO_q rfl rfl (ev_loadN rfl (by repeat' first | exact LdN.blk rfl | assumption | apply LdN.skip | apply LdN.app)) ?_
  refine GO_q rfl rfl (ev_loadN rfl (by repeat' first | exact LdN.blk rfl | assumption | apply LdN.skip | apply LdN.app)) ?_
  refine GO_eff rfl rfl (eff_call rfl (Ctr.frame [_, _, _] (plook_ctr T b l L h ho hn) (fun _ s => s))) ?_; rintro _ _ ⟨L1, ⟨A1, c1, A2, c2, N, rfl, rfl, m1, m2, m3, m4, m5⟩, rfl⟩
  refine GO_q rfl rfl (ev_extract rfl rfl) ?_
  refine GO_q rfl rfl (ev_extract rfl rfl) ?_
  refine GO_q rfl rfl (ev_extract rfl rfl) ?_
  refine GO_q rfl rfl (ev_assign rfl) ?_
  refine GO_q rfl rfl (ev_assign rfl) ?_
  refine GO_q rfl rfl (ev_assign rfl) ?_
  refine GO_nil ?_
  (repeat first | refine G_seq ?_ | refine G_skip ?_ | refine G_endblk ?_ | refine G_block ?_ | refine G_exit rfl ?_)
  exact G_ret (L' := N ++ L) rfl (.tmp rfl (.tmp rfl (.tmp rfl .nil))) (by (repeat first | exact fun _ s => s | apply en_keep | apply en_drop | apply en_app) <;> fail) ⟨A1, c1, A2, c2, N, rfl, rfl, m1, m2, m3, m4, m5⟩
end Go.Proofs.YtejcamnnfmphkaaGreat
/- A stack of nodes: what lies in memory. -/
namespace Go.Proofs.YtejcamnnfmphkaaGreat
set_option linter.unusedVariables false
set_option linter.unusedSimpArgs false

/-- A stack at a place. -/
def stkS (b : Nat) (most : Int) (l : List PR) : HP := fun h => ∃ x : Option Addr × Nat, (0 < l.length → ∃ b, x.1 = some ⟨b, 0, none⟩) ∧ sat [blk b 107 [.slice x.1 l.length x.2, .int .i64 most], own 75 3 x.1 l.length x.2 (flat l)] h
theorem stk_open {s : Nat} {most : Int} {l : List PR} {M : List HP} {hm : Hm} (h : sat (stkS s most l :: M) hm) : ∃ A c, (0 < l.length → ∃ b, A = some ⟨b, 0, none⟩) ∧ l.length ≤ c ∧ c ≤ maxLen ∧ sat (blk s 107 [.slice A l.length c, .int .i64 most] :: own 75 3 A l.length c (flat l) :: M) hm := by
  obtain ⟨h1, h2, d, s1, s2, ⟨⟨A, c⟩, hA, q⟩, t⟩ := h
  have q0 := own.facts (L := []) q.tail
  exact ⟨A, c, hA, q0.2.1, q0.2.2.1, sat.head (A := fun h => h = h1) (N := [blk s 107 [.slice A l.length c, .int .i64 most], own 75 3 A l.length c (flat l)]) (fun _ e => e ▸ q) ⟨h1, h2, d, s1, s2, rfl, t⟩⟩
theorem Ctr.stk {P : Program} {f : FuncId} {args : Array Value} {L : List HP} {b : Nat} {most : Int} {l : List PR} {post : Value → List HP → Prop}
    (C : ∀ A c, (0 < l.length → ∃ b, A = some ⟨b, 0, none⟩) → l.length ≤ c → c ≤ maxLen → Ctr P f args (blk b 107 [.slice A l.length c, .int .i64 most] :: own 75 3 A l.length c (flat l) :: L) post) : Ctr P f args (stkS b most l :: L) post := fun g F w hw => by
  obtain ⟨A, c, h1, h2, h3, h4⟩ := stk_open hw.s.swap
  exact C A c h1 h2 h3 g F w ⟨hw.g, h4.perm (List.perm_middle (l₁ := [_, _]))⟩
theorem en_stk {L M : List HP} {b c : Nat} {A : Option Addr} {most : Int} {l : List PR} (hA : 0 < l.length → ∃ b, A = some ⟨b, 0, none⟩) (f : ∀ h, sat L h → sat (blk b 107 [.slice A l.length c, .int .i64 most] :: own 75 3 A l.length c (flat l) :: M) h) : ∀ h, sat L h → sat (stkS b most l :: M) h := fun h s =>
  sat.fold (N := [_, _]) (fun h q => ⟨(A, c), hA, q⟩) (f h s)
theorem own_of3 {L : List HP} {b c : Nat} {T : TypeId} {u1 u2 u3 v1 v2 v3 : Value} {r : List Value} (k1 : (v1 :: v2 :: v3 :: u1 :: u2 :: u3 :: r).length = c * 3) (k2 : 2 ≤ c) (k3 : c ≤ maxLen) : ∀ h, sat (blk b T (u1 :: u2 :: u3 :: v1 :: v2 :: v3 :: r) :: L) h → sat (own T 3 (some ⟨b, 0, none⟩) 2 c [u1, u2, u3, v1, v2, v3] :: L) h := fun h s => by
  obtain ⟨h1, h2, d, s1, s2, q, z⟩ := s
  exact ⟨h1, h2, d, s1, s2, own.cls (n := 2) (c := c) (sz := 3) (cs := u1 :: u2 :: u3 :: v1 :: v2 :: v3 :: r) q k1 k2 k3, z⟩
theorem sw6 (u1 u2 u3 v1 v2 v3 : Value) (r : List Value) : setN (setN (u1 :: u2 :: u3 :: v1 :: v2 :: v3 :: r) (0 + 0 * 3) [v1, v2, v3]) (0 + 1 * 3) [u1, u2, u3] = v1 :: v2 :: v3 :: u1 :: u2 :: u3 :: r := by
  rw [setN_eq (u1 :: u2 :: u3 :: v1 :: v2 :: v3 :: r) _ _ (by simp), setN_eq _ _ _ (by simp)]
  simp
end Go.Proofs.YtejcamnnfmphkaaGreat
