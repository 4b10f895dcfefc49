/- Trees that are heaps by Y: the highest point between two places. -/
import Derived.Test.YtalcanejhniepaaSetY
import Derived.Test.YtalcanejhniepaaEnd
import Derived.Test.YtalcanejhniepaaUp
namespace Go.Proofs.Ytalcanejhniepaa
attribute [local irreducible] sat
set_option linter.unusedVariables false
set_option linter.unusedSimpArgs false
set_option maxRecDepth 100000

def sel (x1 x2 : Int) (p : Pt) : Bool := decide (x1 ≤ p.x) && decide (p.x ≤ x2)
theorem sel_true {x1 x2 : Int} {p : Pt} : sel x1 x2 p = true ↔ x1 ≤ p.x ∧ p.x ≤ x2 := by simp [sel]
/-- From one best point to another one, over some points. -/
structure Top (x1 x2 : Int) (l : List Pt) (f : Bool) (p : Pt) (f' : Bool) (p' : Pt) : Prop where
  fnd : f' = true ↔ (f = true ∨ ∃ q ∈ l, sel x1 x2 q = true)
  non : f' = false → p' = p
  src : f' = true → (f = true ∧ p' = p) ∨ (p' ∈ l ∧ sel x1 x2 p' = true)
  old : f = true → p' = p ∨ und p p' = true
  all : ∀ q ∈ l, sel x1 x2 q = true → q = p' ∨ und q p' = true
theorem Top.out {x1 x2 : Int} {l : List Pt} {f : Bool} {p : Pt} (h : ∀ q ∈ l, sel x1 x2 q = false) : Top x1 x2 l f p f p where
  fnd := ⟨.inl, fun h' => h'.elim id fun ⟨q, hq, hs⟩ => by rw [h q hq] at hs; cases hs⟩
  non := fun _ => rfl
  src := fun e => .inl ⟨e, rfl⟩
  old := fun _ => .inl rfl
  all := fun q hq hs => by rw [h q hq] at hs; cases hs
theorem Top.low {x1 x2 : Int} {l : List Pt} {p : Pt} (h : ∀ q ∈ l, q = p ∨ und q p = true) : Top x1 x2 l true p true p where
  fnd := ⟨fun _ => .inl rfl, fun _ => rfl⟩
  non := fun _ => rfl
  src := fun e => .inl ⟨e, rfl⟩
  old := fun _ => .inl rfl
  all := fun q hq _ => h q hq
theorem Top.new {x1 x2 : Int} {l : List Pt} {f : Bool} {p q : Pt} (hq : q ∈ l) (hs : sel x1 x2 q = true) (h : ∀ r ∈ l, r = q ∨ und r q = true) (ho : f = true → und p q = true) : Top x1 x2 l f p true q where
  fnd := ⟨fun _ => .inr ⟨q, hq, hs⟩, fun _ => rfl⟩
  non := fun e => by cases e
  src := fun _ => .inr ⟨hq, hs⟩
  old := fun e => .inr (ho e)
  all := fun r hr _ => h r hr
theorem und_le {p q r : Pt} (h : p = q ∨ und p q = true) (k : q = r ∨ und q r = true) : p = r ∨ und p r = true := by
  rcases h with rfl | h
  · exact k
  · rcases k with rfl | k
    · exact .inr h
    · exact .inr (und_trans h k)
theorem Top.app {x1 x2 : Int} {l m : List Pt} {f f1 f2 : Bool} {p p1 p2 : Pt} (h1 : Top x1 x2 l f p f1 p1) (h2 : Top x1 x2 m f1 p1 f2 p2) : Top x1 x2 (l ++ m) f p f2 p2 where
  fnd := by
    rw [h2.fnd, h1.fnd]
    simp only [List.mem_append, or_assoc]
    constructor
    · rintro (h | ⟨q, h, k⟩ | ⟨q, h, k⟩)
      · exact .inl h
      · exact .inr ⟨q, .inl h, k⟩
      · exact .inr ⟨q, .inr h, k⟩
    · rintro (h | ⟨q, h | h, k⟩)
      · exact .inl h
      · exact .inr (.inl ⟨q, h, k⟩)
      · exact .inr (.inr ⟨q, h, k⟩)
  non := fun e => by
    have e1 : f1 = false := by
      cases hf : f1 with
      | false => rfl
      | true => have := h2.fnd.2 (.inl hf); rw [e] at this; cases this
    rw [h2.non e, h1.non e1]
  src := fun e => by
    rcases h2.src e with ⟨a, rfl⟩ | ⟨a, b⟩
    · rcases h1.src a with ⟨c, rfl⟩ | ⟨c, d⟩
      · exact .inl ⟨c, rfl⟩
      · exact .inr ⟨List.mem_append.2 (.inl c), d⟩
    · exact .inr ⟨List.mem_append.2 (.inr a), b⟩
  old := fun e => by
    have a : p = p1 ∨ und p p1 = true := (h1.old e).imp Eq.symm id
    have b : p1 = p2 ∨ und p1 p2 = true := (h2.old (h1.fnd.2 (.inl e))).imp Eq.symm id
    exact (und_le a b).imp Eq.symm id
  all := fun q hq hs => by
    rcases List.mem_append.1 hq with hq | hq
    · exact und_le (h1.all q hq hs) ((h2.old (h1.fnd.2 (.inr ⟨q, hq, hs⟩))).imp Eq.symm id)
    · exact h2.all q hq hs
theorem Top.cons {x1 x2 : Int} {l : List Pt} {f f' : Bool} {p p' q : Pt} (hq : sel x1 x2 q = false) (h : Top x1 x2 l f p f' p') : Top x1 x2 (q :: l) f p f' p' :=
  Top.app (l := [q]) (Top.out (fun r hr => by rw [List.mem_singleton.1 hr]; exact hq)) h
theorem Top.uniq {x1 x2 : Int} {l m : List Pt} {z p1 p2 : Pt} {f1 f2 : Bool} (hp : l.Perm m) (h1 : Top x1 x2 l false z f1 p1) (h2 : Top x1 x2 m false z f2 p2) : f1 = f2 ∧ p1 = p2 := by
  have e : f1 = true ↔ f2 = true := by
    rw [h1.fnd, h2.fnd]
    simp only [hp.mem_iff]
  have ef : f1 = f2 := by cases f1 <;> cases f2 <;> simp_all
  subst ef
  refine ⟨rfl, ?_⟩
  cases f1 with
  | false => rw [h1.non rfl, h2.non rfl]
  | true =>
    rcases h1.src rfl with ⟨a, _⟩ | ⟨a, b⟩
    · cases a
    · rcases h2.src rfl with ⟨c, _⟩ | ⟨c, d⟩
      · cases c
      · rcases h1.all _ (hp.mem_iff.2 c) d with u | u
        · exact u.symm
        · rcases h2.all _ (hp.mem_iff.1 a) b with v | v
          · exact v
          · rw [und_asymm u] at v; cases v
theorem beh_lo {q s : Pt} (h : beh q s = false) : q.x ≤ s.x := by
  rw [beh_false] at h
  have h1 := Pt.less_iff s q
  rw [h] at h1
  simp at h1
  omega
theorem beh_hi {q s : Pt} (h : beh q s = true) : s.x ≤ q.x := by
  rw [beh_true] at h
  have h1 := (Pt.less_iff s q).1 h
  omega
theorem highest_ctr (x1 x2 : Int) : ∀ (x : PA) (c d : Nat) (f : Bool) (p : Pt) (L : List HP), PIn L x → x.t.Ok →
    Ctr Try.prog 63 #[.pointer x.addr, .int .i64 x1, .int .i64 x2, .pointer (some ⟨c, 0, none⟩), .pointer (some ⟨d, 0, none⟩)] (blk c 39 [.int .i64 p.id, .int .i64 p.x, .int .i64 p.y] :: blk d 4 [.bool f] :: L)
      fun v L' => ∃ (f' : Bool) (p' : Pt), v = .tuple #[] ∧ Top x1 x2 x.t.els f p f' p' ∧ L' = blk c 39 [.int .i64 p'.id, .int .i64 p'.x, .int .i64 p'.y] :: blk d 4 [.bool f'] :: L
  | .nil, c, d, f, p, L, hin, hok => by
    refine Ctr_of (fn := Try.f63) (n := 84) Try.func63 rfl rfl rfl ?_
    intro g F
    (repeat first | refine G_seq ?_ | refine G_skip ?_ | refine G_endblk ?_ | refine G_block ?_ | refine G_exit rfl ?_)
    refine G_draw (.q 0 (.q 1 (.q 2 (.q 3 (.q 4 (.q 5 (.q 6 (.q 7 (.q 8 (.q 9 (.q 10 (.q 11 (.q 12 (.q 13 (.e 14 (.q 15 (.q 16 (.q 17 .nil)))))))))))))))))) (by kernel_rfl) (by kernel_rfl) ?_
    refine RS_q retB_noPanic rfl rfl rfl (ev_move rfl) ?_
    (first | refine RS_q retB_noPanic rfl rfl rfl (ev_eqlNil rfl rfl) ?_ | refine RS_q retB_noPanic rfl rfl rfl (ev_eqlPtr rfl rfl) ?_)
    refine RS_q retB_noPanic rfl rfl rfl (ev_move rfl) ?_
    refine RS_q_no retB_noPanic rfl rfl rfl ⟨_, rfl, rfl⟩ rfl ?_
    refine RS_q_no retB_noPanic rfl rfl rfl ⟨_, rfl, rfl⟩ rfl ?_
    refine RS_q_no retB_noPanic rfl rfl rfl ⟨_, rfl, rfl⟩ rfl ?_
    refine RS_q_no retB_noPanic rfl rfl rfl ⟨_, rfl, rfl⟩ rfl ?_
    refine RS_q_undef retB_noPanic rfl rfl rfl rfl rfl ?_
    refine RS_q_undef retB_noPanic rfl rfl rfl rfl rfl ?_
    refine RS_q_undef retB_noPanic rfl rfl rfl rfl rfl ?_
    refine RS_q_undef retB_noPanic rfl rfl rfl rfl rfl ?_
    refine RS_q_undef retB_noPanic rfl rfl rfl rfl rfl ?_
    refine RS_q_undef retB_noPanic rfl rfl rfl rfl rfl ?_
    refine RS_q_undef retB_noPanic rfl rfl rfl rfl rfl ?_
    refine RS_e (RE_undef rfl rfl rfl rfl rfl ?_)
    refine RS_q_undef retB_noPanic rfl rfl rfl rfl rfl ?_
    refine RS_q_no retB_noPanic rfl rfl rfl ⟨_, rfl, rfl⟩ rfl ?_
    refine RS_q retB_noPanic rfl rfl rfl (ev_pick_t rfl rfl rfl) ?_
    refine RS_nil ?_
    (repeat first | refine G_seq ?_ | refine G_skip ?_ | refine G_endblk ?_ | refine G_block ?_ | refine G_exit rfl ?_)
    refine G_cond_t rfl rfl ?_
    (repeat first | refine G_seq ?_ | refine G_skip ?_ | refine G_endblk ?_ | refine G_block ?_ | refine G_exit rfl ?_)
    refine G_ret rfl .nil (by (repeat first | exact fun _ s => s | apply en_keep | apply en_drop | apply en_app) <;> fail) ⟨f, p, rfl, Top.out (fun _ h => by cases h), rfl⟩
  | .node b q s lo hi, c, d, f, p, L, hin, hok => by
    have ih1 := fun c d f p L h => highest_ctr x1 x2 lo c d f p L h hok.1
    have ih2 := fun c d f p L h => highest_ctr x1 x2 hi c d f p L h hok.2.1
    obtain ⟨q1, q2, q3, q4, q5, q6, q7, q8, q9⟩ := hin.f
    have hlow : ∀ r ∈ (PA.node b q s lo hi).t.els, r = q ∨ und r q = true := fun r hr => els_und hok hr
    have hlo : ∀ r ∈ lo.t.els, r.x ≤ s.x := fun r hr => beh_lo (hok.2.2.1 r hr)
    have hhi : ∀ r ∈ hi.t.els, s.x ≤ r.x := fun r hr => beh_hi (hok.2.2.2.1 r hr)
    by_cases hf : f = true ∧ und p q = false
    · obtain ⟨rfl, hu⟩ := hf
      have hqp : q = p ∨ und q p = true := by
        by_cases e : p = q
        · exact .inl e.symm
        · exact .inr (und_total e hu)
      refine Ctr_of (fn := Try.f63) (n := 84) Try.func63 rfl rfl rfl ?_
      intro g F
      (repeat first | refine G_seq ?_ | refine G_skip ?_ | refine G_endblk ?_ | refine G_block ?_ | refine G_exit rfl ?_)
      refine G_draw (.q 0 (.q 1 (.q 2 (.q 3 (.q 4 (.q 5 (.q 6 (.q 7 (.q 8 (.q 9 (.q 10 (.q 11 (.q 12 (.q 13 (.e 14 (.q 15 (.q 16 (.q 17 .nil)))))))))))))))))) (by kernel_rfl) (by kernel_rfl) ?_
      refine RS_q retB_noPanic rfl rfl rfl (ev_move rfl) ?_
      (first | refine RS_q retB_noPanic rfl rfl rfl (ev_eqlNil rfl rfl) ?_ | refine RS_q retB_noPanic rfl rfl rfl (ev_eqlPtr rfl rfl) ?_)
      refine RS_q retB_noPanic rfl rfl rfl (ev_move rfl) ?_
      refine RS_q_yes retB_noPanic rfl rfl rfl ⟨_, rfl, rfl⟩ rfl (ev_move rfl) ?_
      (first | refine RS_q_yes retB_noPanic rfl rfl rfl ⟨_, rfl, rfl⟩ rfl (ev_nilCheck rfl) ?_ | refine RS_q_yes retB_noPanic rfl rfl rfl ⟨_, rfl, rfl⟩ rfl (ev_nilCheckF (by simp) rfl) ?_)
      refine RS_q_yes retB_noPanic rfl rfl rfl ⟨_, rfl, rfl⟩ rfl (ev_load rfl (by repeat' first | exact Ld.blk rfl | assumption | apply Ld.skip | apply Ld.app)) ?_
      refine RS_q_yes retB_noPanic rfl rfl rfl ⟨_, rfl, rfl⟩ rfl (ev_move rfl) ?_
      refine RS_q_yes retB_noPanic rfl rfl rfl ⟨_, rfl, rfl⟩ rfl (ev_move rfl) ?_
      (first | refine RS_q_yes retB_noPanic rfl rfl rfl ⟨_, rfl, rfl⟩ rfl (ev_nilCheck rfl) ?_ | refine RS_q_yes retB_noPanic rfl rfl rfl ⟨_, rfl, rfl⟩ rfl (ev_nilCheckF (by simp) rfl) ?_)
      refine RS_q_yes retB_noPanic rfl rfl rfl ⟨_, rfl, rfl⟩ rfl (ev_loadN rfl (by repeat' first | exact LdN.blk rfl | assumption | apply LdN.skip | apply LdN.app)) ?_
      refine RS_q_yes retB_noPanic rfl rfl rfl ⟨_, rfl, rfl⟩ rfl (ev_move rfl) ?_
      (first | refine RS_q_yes retB_noPanic rfl rfl rfl ⟨_, rfl, rfl⟩ rfl (ev_nilCheck rfl) ?_ | refine RS_q_yes retB_noPanic rfl rfl rfl ⟨_, rfl, rfl⟩ rfl (ev_nilCheckF (by simp) rfl) ?_)
      refine RS_q_yes retB_noPanic rfl rfl rfl ⟨_, rfl, rfl⟩ rfl (ev_fieldAddr rfl) ?_
      refine RS_q_yes retB_noPanic rfl rfl rfl ⟨_, rfl, rfl⟩ rfl (ev_loadN rfl (by repeat' first | exact LdN.blk rfl | assumption | apply LdN.skip | apply LdN.app)) ?_
      refine RS_e (RE_eff_yes rfl rfl rfl ⟨_, rfl, rfl⟩ rfl (eff_call rfl (under_ctr p q _)) ?_); rintro _ _ ⟨rfl, rfl⟩; refine ⟨_, fun _ s => s, (by first | ((repeat first | exact fun _ s => s | apply en_keep | apply en_drop | apply en_app) <;> fail) | ((repeat first | exact en_refl | (apply en_blk; focus ((repeat' first | exact Pick.here | apply Pick.skip | apply Pick.app); done); focus rfl) | (apply en_own; focus ((repeat' first | exact Pick.here | apply Pick.skip | apply Pick.app); done); focus rfl) | (apply en_pick; focus ((repeat' first | exact Pick.here | apply Pick.skip | apply Pick.app); done)) | apply en_drop | apply en_app) <;> fail)), ?_⟩
      refine RS_q_yes retB_noPanic rfl rfl rfl ⟨_, rfl, rfl⟩ rfl (ev_not rfl) ?_
      refine RS_q_yes retB_noPanic rfl rfl rfl ⟨_, rfl, rfl⟩ rfl (ev_pick_t rfl rfl rfl) ?_
      refine RS_q retB_noPanic rfl rfl rfl (ev_pick_f rfl rfl rfl) ?_
      refine RS_nil ?_
      (repeat first | refine G_seq ?_ | refine G_skip ?_ | refine G_endblk ?_ | refine G_block ?_ | refine G_exit rfl ?_)
      refine G_cond_t rfl (by rw [hu]; rfl) ?_
      (repeat first | refine G_seq ?_ | refine G_skip ?_ | refine G_endblk ?_ | refine G_block ?_ | refine G_exit rfl ?_)
      refine G_ret rfl .nil (by (repeat first | exact fun _ s => s | apply en_keep | apply en_drop | apply en_app) <;> fail) ⟨true, p, rfl, Top.low (fun r hr => und_le (hlow r hr) hqp), rfl⟩
    · have hk : f = true → und p q = true := fun e => by
        cases hu : und p q with
        | true => rfl
        | false => exact absurd ⟨e, hu⟩ hf
      refine Ctr_of (fn := Try.f63) (n := 84) Try.func63 rfl rfl rfl ?_
      intro g F
      by_cases hfe : f = true
      case' pos =>
        have hu := hk hfe
        (repeat first | refine G_seq ?_ | refine G_skip ?_ | refine G_endblk ?_ | refine G_block ?_ | refine G_exit rfl ?_)
        refine G_draw (.q 0 (.q 1 (.q 2 (.q 3 (.q 4 (.q 5 (.q 6 (.q 7 (.q 8 (.q 9 (.q 10 (.q 11 (.q 12 (.q 13 (.e 14 (.q 15 (.q 16 (.q 17 .nil)))))))))))))))))) (by kernel_rfl) (by kernel_rfl) ?_
        refine RS_q retB_noPanic rfl rfl rfl (ev_move rfl) ?_
        (first | refine RS_q retB_noPanic rfl rfl rfl (ev_eqlNil rfl rfl) ?_ | refine RS_q retB_noPanic rfl rfl rfl (ev_eqlPtr rfl rfl) ?_)
        refine RS_q retB_noPanic rfl rfl rfl (ev_move rfl) ?_
        refine RS_q_yes retB_noPanic rfl rfl rfl ⟨_, rfl, rfl⟩ rfl (ev_move rfl) ?_
        (first | refine RS_q_yes retB_noPanic rfl rfl rfl ⟨_, rfl, rfl⟩ rfl (ev_nilCheck rfl) ?_ | refine RS_q_yes retB_noPanic rfl rfl rfl ⟨_, rfl, rfl⟩ rfl (ev_nilCheckF (by simp) rfl) ?_)
        refine RS_q_yes retB_noPanic rfl rfl rfl ⟨_, rfl, rfl⟩ rfl (ev_load rfl (by repeat' first | exact Ld.blk rfl | assumption | apply Ld.skip | apply Ld.app)) ?_
        refine RS_q_yes retB_noPanic rfl rfl rfl ⟨_, rfl, rfl⟩ rfl (ev_move rfl) ?_
        refine RS_q_yes retB_noPanic rfl rfl rfl ⟨_, rfl, hfe⟩ rfl (ev_move rfl) ?_
        (first | refine RS_q_yes retB_noPanic rfl rfl rfl ⟨_, rfl, hfe⟩ rfl (ev_nilCheck rfl) ?_ | refine RS_q_yes retB_noPanic rfl rfl rfl ⟨_, rfl, hfe⟩ rfl (ev_nilCheckF (by simp) rfl) ?_)
        refine RS_q_yes retB_noPanic rfl rfl rfl ⟨_, rfl, hfe⟩ rfl (ev_loadN rfl (by repeat' first | exact LdN.blk rfl | assumption | apply LdN.skip | apply LdN.app)) ?_
        refine RS_q_yes retB_noPanic rfl rfl rfl ⟨_, rfl, hfe⟩ rfl (ev_move rfl) ?_
        (first | refine RS_q_yes retB_noPanic rfl rfl rfl ⟨_, rfl, hfe⟩ rfl (ev_nilCheck rfl) ?_ | refine RS_q_yes retB_noPanic rfl rfl rfl ⟨_, rfl, hfe⟩ rfl (ev_nilCheckF (by simp) rfl) ?_)
        refine RS_q_yes retB_noPanic rfl rfl rfl ⟨_, rfl, hfe⟩ rfl (ev_fieldAddr rfl) ?_
        refine RS_q_yes retB_noPanic rfl rfl rfl ⟨_, rfl, hfe⟩ rfl (ev_loadN rfl (by repeat' first | exact LdN.blk rfl | assumption | apply LdN.skip | apply LdN.app)) ?_
        refine RS_e (RE_eff_yes rfl rfl rfl ⟨_, rfl, hfe⟩ rfl (eff_call rfl (under_ctr p q _)) ?_); rintro _ _ ⟨rfl, rfl⟩; refine ⟨_, fun _ s => s, (by first | ((repeat first | exact fun _ s => s | apply en_keep | apply en_drop | apply en_app) <;> fail) | ((repeat first | exact en_refl | (apply en_blk; focus ((repeat' first | exact Pick.here | apply Pick.skip | apply Pick.app); done); focus rfl) | (apply en_own; focus ((repeat' first | exact Pick.here | apply Pick.skip | apply Pick.app); done); focus rfl) | (apply en_pick; focus ((repeat' first | exact Pick.here | apply Pick.skip | apply Pick.app); done)) | apply en_drop | apply en_app) <;> fail)), ?_⟩
        refine RS_q_yes retB_noPanic rfl rfl rfl ⟨_, rfl, hfe⟩ rfl (ev_not rfl) ?_
        refine RS_q_yes retB_noPanic rfl rfl rfl ⟨_, rfl, rfl⟩ rfl (ev_pick_t rfl hfe rfl) ?_
        refine RS_q retB_noPanic rfl rfl rfl (ev_pick_f rfl rfl rfl) ?_
        refine RS_nil ?_
        (repeat first | refine G_seq ?_ | refine G_skip ?_ | refine G_endblk ?_ | refine G_block ?_ | refine G_exit rfl ?_)
        refine G_cond_f rfl (by rw [hu]; rfl) ?_
      case' neg =>
        have hfe2 : f = false := by simpa using hfe
        (repeat first | refine G_seq ?_ | refine G_skip ?_ | refine G_endblk ?_ | refine G_block ?_ | refine G_exit rfl ?_)
        refine G_draw (.q 0 (.q 1 (.q 2 (.q 3 (.q 4 (.q 5 (.q 6 (.q 7 (.q 8 (.q 9 (.q 10 (.q 11 (.q 12 (.q 13 (.e 14 (.q 15 (.q 16 (.q 17 .nil)))))))))))))))))) (by kernel_rfl) (by kernel_rfl) ?_
        refine RS_q retB_noPanic rfl rfl rfl (ev_move rfl) ?_
        (first | refine RS_q retB_noPanic rfl rfl rfl (ev_eqlNil rfl rfl) ?_ | refine RS_q retB_noPanic rfl rfl rfl (ev_eqlPtr rfl rfl) ?_)
        refine RS_q retB_noPanic rfl rfl rfl (ev_move rfl) ?_
        refine RS_q_yes retB_noPanic rfl rfl rfl ⟨_, rfl, rfl⟩ rfl (ev_move rfl) ?_
        (first | refine RS_q_yes retB_noPanic rfl rfl rfl ⟨_, rfl, rfl⟩ rfl (ev_nilCheck rfl) ?_ | refine RS_q_yes retB_noPanic rfl rfl rfl ⟨_, rfl, rfl⟩ rfl (ev_nilCheckF (by simp) rfl) ?_)
        refine RS_q_yes retB_noPanic rfl rfl rfl ⟨_, rfl, rfl⟩ rfl (ev_load rfl (by repeat' first | exact Ld.blk rfl | assumption | apply Ld.skip | apply Ld.app)) ?_
        refine RS_q_yes retB_noPanic rfl rfl rfl ⟨_, rfl, rfl⟩ rfl (ev_move rfl) ?_
        refine RS_q_no retB_noPanic rfl rfl rfl ⟨_, rfl, hfe2⟩ rfl ?_
        refine RS_q_no retB_noPanic rfl rfl rfl ⟨_, rfl, hfe2⟩ rfl ?_
        refine RS_q_no retB_noPanic rfl rfl rfl ⟨_, rfl, hfe2⟩ rfl ?_
        refine RS_q_no retB_noPanic rfl rfl rfl ⟨_, rfl, hfe2⟩ rfl ?_
        refine RS_q_no retB_noPanic rfl rfl rfl ⟨_, rfl, hfe2⟩ rfl ?_
        refine RS_q_no retB_noPanic rfl rfl rfl ⟨_, rfl, hfe2⟩ rfl ?_
        refine RS_q_no retB_noPanic rfl rfl rfl ⟨_, rfl, hfe2⟩ rfl ?_
        refine RS_e (RE_no rfl rfl rfl ⟨_, rfl, hfe2⟩ rfl ?_)
        refine RS_q_no retB_noPanic rfl rfl rfl ⟨_, rfl, hfe2⟩ rfl ?_
        refine RS_q_yes retB_noPanic rfl rfl rfl ⟨_, rfl, rfl⟩ rfl (ev_pick_f rfl hfe2 rfl) ?_
        refine RS_q retB_noPanic rfl rfl rfl (ev_pick_f rfl rfl rfl) ?_
        refine RS_nil ?_
        (repeat first | refine G_seq ?_ | refine G_skip ?_ | refine G_endblk ?_ | refine G_block ?_ | refine G_exit rfl ?_)
        refine G_cond_f rfl rfl ?_
      all_goals
        by_cases hs : sel x1 x2 q = true
        · have hs2 := sel_true.1 hs
          (repeat first | refine G_seq ?_ | refine G_skip ?_ | refine G_endblk ?_ | refine G_block ?_ | refine G_exit rfl ?_)
          refine G_region ?_
          refine GO_q rfl rfl (ev_move rfl) ?_
          (first | refine GO_q rfl rfl (ev_nilCheck rfl) ?_ | refine GO_q rfl rfl (ev_nilCheckF (by simp) rfl) ?_)
          refine GO_q rfl rfl (ev_fieldAddr rfl) ?_
          refine GO_q rfl rfl (ev_fieldAddr rfl) ?_
          refine GO_q rfl rfl (ev_load rfl (by repeat' first | exact Ld.blk rfl | assumption | apply Ld.skip | apply Ld.app)) ?_
          refine GO_q rfl rfl (ev_move rfl) ?_
          refine GO_q rfl rfl (ev_geq rfl rfl) ?_
          refine GO_q rfl rfl (ev_move rfl) ?_
          refine GO_yes rfl rfl rfl (decide_eq_true hs2.1) ?_
          refine GO_q rfl rfl (ev_move rfl) ?_
          refine GO_yes rfl rfl rfl (decide_eq_true hs2.1) ?_
          (first | refine GO_q rfl rfl (ev_nilCheck rfl) ?_ | refine GO_q rfl rfl (ev_nilCheckF (by simp) rfl) ?_)
          refine GO_yes rfl rfl rfl (decide_eq_true hs2.1) ?_
          refine GO_q rfl rfl (ev_fieldAddr rfl) ?_
          refine GO_yes rfl rfl rfl (decide_eq_true hs2.1) ?_
          refine GO_q rfl rfl (ev_fieldAddr rfl) ?_
          refine GO_yes rfl rfl rfl (decide_eq_true hs2.1) ?_
          refine GO_q rfl rfl (ev_load rfl (by repeat' first | exact Ld.blk rfl | assumption | apply Ld.skip | apply Ld.app)) ?_
          refine GO_yes rfl rfl rfl (decide_eq_true hs2.1) ?_
          refine GO_q rfl rfl (ev_move rfl) ?_
          refine GO_yes rfl rfl rfl (decide_eq_true hs2.1) ?_
          refine GO_q rfl rfl (ev_leq rfl rfl) ?_
          refine GO_q rfl rfl (ev_pick_t rfl (decide_eq_true hs2.1) rfl) ?_
          refine GO_nil ?_
          (repeat first | refine G_seq ?_ | refine G_skip ?_ | refine G_endblk ?_ | refine G_block ?_ | refine G_exit rfl ?_)
          refine G_cond_t rfl (decide_eq_true hs2.2) ?_
          (repeat first | refine G_seq ?_ | refine G_skip ?_ | refine G_endblk ?_ | refine G_block ?_ | refine G_exit rfl ?_)
          refine G_region ?_
          refine GO_q rfl rfl (ev_move rfl) ?_
          refine GO_q rfl rfl (ev_move rfl) ?_
          refine GO_q rfl rfl (ev_move rfl) ?_
          (first | refine GO_q rfl rfl (ev_nilCheck rfl) ?_ | refine GO_q rfl rfl (ev_nilCheckF (by simp) rfl) ?_)
          refine GO_q rfl rfl (ev_fieldAddr rfl) ?_
          refine GO_q rfl rfl (ev_loadN rfl (by repeat' first | exact LdN.blk rfl | assumption | apply LdN.skip | apply LdN.app)) ?_
          (first | refine GO_q rfl rfl (ev_nilCheck rfl) ?_ | refine GO_q rfl rfl (ev_nilCheckF (by simp) rfl) ?_)
          refine GO_eff rfl rfl (eff_storeN rfl rfl rfl rfl (by repeat' first | exact Upd.here rfl | apply Upd.skip | apply Upd.app)) ?_; rintro _ _ ⟨rfl, rfl⟩
          (first | refine GO_q rfl rfl (ev_nilCheck rfl) ?_ | refine GO_q rfl rfl (ev_nilCheckF (by simp) rfl) ?_)
          refine GO_eff rfl rfl (eff_store rfl rfl rfl (by repeat' first | exact Upd.here rfl | apply Upd.skip | apply Upd.app)) ?_; rintro _ _ ⟨rfl, rfl⟩
          refine GO_nil ?_
          (repeat first | refine G_seq ?_ | refine G_skip ?_ | refine G_endblk ?_ | refine G_block ?_ | refine G_exit rfl ?_)
          refine G_ret rfl .nil (by (repeat first | exact fun _ s => s | apply en_keep | apply en_drop | apply en_app) <;> fail) ⟨true, q, rfl, Top.new (List.mem_cons_self ..) hs hlow hk, rfl⟩
        · have hs1 : sel x1 x2 q = false := by simpa using hs
          by_cases hx1 : x1 ≤ q.x
          case' pos =>
            have hx2 : ¬ q.x ≤ x2 := fun h => hs (sel_true.2 ⟨hx1, h⟩)
            (repeat first | refine G_seq ?_ | refine G_skip ?_ | refine G_endblk ?_ | refine G_block ?_ | refine G_exit rfl ?_)
            refine G_region ?_
            refine GO_q rfl rfl (ev_move rfl) ?_
            (first | refine GO_q rfl rfl (ev_nilCheck rfl) ?_ | refine GO_q rfl rfl (ev_nilCheckF (by simp) rfl) ?_)
            refine GO_q rfl rfl (ev_fieldAddr rfl) ?_
            refine GO_q rfl rfl (ev_fieldAddr rfl) ?_
            refine GO_q rfl rfl (ev_load rfl (by repeat' first | exact Ld.blk rfl | assumption | apply Ld.skip | apply Ld.app)) ?_
            refine GO_q rfl rfl (ev_move rfl) ?_
            refine GO_q rfl rfl (ev_geq rfl rfl) ?_
            refine GO_q rfl rfl (ev_move rfl) ?_
            refine GO_yes rfl rfl rfl (decide_eq_true hx1) ?_
            refine GO_q rfl rfl (ev_move rfl) ?_
            refine GO_yes rfl rfl rfl (decide_eq_true hx1) ?_
            (first | refine GO_q rfl rfl (ev_nilCheck rfl) ?_ | refine GO_q rfl rfl (ev_nilCheckF (by simp) rfl) ?_)
            refine GO_yes rfl rfl rfl (decide_eq_true hx1) ?_
            refine GO_q rfl rfl (ev_fieldAddr rfl) ?_
            refine GO_yes rfl rfl rfl (decide_eq_true hx1) ?_
            refine GO_q rfl rfl (ev_fieldAddr rfl) ?_
            refine GO_yes rfl rfl rfl (decide_eq_true hx1) ?_
            refine GO_q rfl rfl (ev_load rfl (by repeat' first | exact Ld.blk rfl | assumption | apply Ld.skip | apply Ld.app)) ?_
            refine GO_yes rfl rfl rfl (decide_eq_true hx1) ?_
            refine GO_q rfl rfl (ev_move rfl) ?_
            refine GO_yes rfl rfl rfl (decide_eq_true hx1) ?_
            refine GO_q rfl rfl (ev_leq rfl rfl) ?_
            refine GO_q rfl rfl (ev_pick_t rfl (decide_eq_true hx1) rfl) ?_
            refine GO_nil ?_
            (repeat first | refine G_seq ?_ | refine G_skip ?_ | refine G_endblk ?_ | refine G_block ?_ | refine G_exit rfl ?_)
            refine G_cond_f rfl (decide_eq_false hx2) ?_
          case' neg =>
            (repeat first | refine G_seq ?_ | refine G_skip ?_ | refine G_endblk ?_ | refine G_block ?_ | refine G_exit rfl ?_)
            refine G_region ?_
            refine GO_q rfl rfl (ev_move rfl) ?_
            (first | refine GO_q rfl rfl (ev_nilCheck rfl) ?_ | refine GO_q rfl rfl (ev_nilCheckF (by simp) rfl) ?_)
            refine GO_q rfl rfl (ev_fieldAddr rfl) ?_
            refine GO_q rfl rfl (ev_fieldAddr rfl) ?_
            refine GO_q rfl rfl (ev_load rfl (by repeat' first | exact Ld.blk rfl | assumption | apply Ld.skip | apply Ld.app)) ?_
            refine GO_q rfl rfl (ev_move rfl) ?_
            refine GO_q rfl rfl (ev_geq rfl rfl) ?_
            refine GO_q rfl rfl (ev_move rfl) ?_
            refine GO_no rfl rfl rfl (decide_eq_false hx1) ?_
            refine GO_no rfl rfl rfl (decide_eq_false hx1) ?_
            refine GO_no rfl rfl rfl (decide_eq_false hx1) ?_
            refine GO_no rfl rfl rfl (decide_eq_false hx1) ?_
            refine GO_no rfl rfl rfl (decide_eq_false hx1) ?_
            refine GO_no rfl rfl rfl (decide_eq_false hx1) ?_
            refine GO_no rfl rfl rfl (decide_eq_false hx1) ?_
            refine GO_q rfl rfl (ev_pick_f rfl (decide_eq_false hx1) rfl) ?_
            refine GO_nil ?_
            (repeat first | refine G_seq ?_ | refine G_skip ?_ | refine G_endblk ?_ | refine G_block ?_ | refine G_exit rfl ?_)
            refine G_cond_f rfl rfl ?_
          all_goals
            (repeat first | refine G_seq ?_ | refine G_skip ?_ | refine G_endblk ?_ | refine G_block ?_ | refine G_exit rfl ?_)
            refine G_region ?_
            refine GO_q rfl rfl (ev_move rfl) ?_
            refine GO_q rfl rfl (ev_move rfl) ?_
            (first | refine GO_q rfl rfl (ev_nilCheck rfl) ?_ | refine GO_q rfl rfl (ev_nilCheckF (by simp) rfl) ?_)
            refine GO_q rfl rfl (ev_fieldAddr rfl) ?_
            refine GO_q rfl rfl (ev_fieldAddr rfl) ?_
            refine GO_q rfl rfl (ev_load rfl (by repeat' first | exact Ld.blk rfl | assumption | apply Ld.skip | apply Ld.app)) ?_
            refine GO_q rfl rfl (ev_leq rfl rfl) ?_
            refine GO_nil ?_
            (repeat first | refine G_seq ?_ | refine G_skip ?_ | refine G_endblk ?_)
            refine G_cut (ι := Bool × Pt) (fun _ => [(0, .pointer (some ⟨b, 0, none⟩)), (1, .int .i64 x1), (2, .int .i64 x2), (3, .pointer (some ⟨c, 0, none⟩)), (4, .pointer (some ⟨d, 0, none⟩))]) (fun y => blk c 39 [.int .i64 y.2.id, .int .i64 y.2.x, .int .i64 y.2.y] :: blk d 4 [.bool y.1] :: F :: L) (fun y => Top x1 x2 lo.t.els f p y.1 y.2) ?_ ?_
            · by_cases hx : x1 ≤ s.x
              · skip
                (repeat first | refine G_seq ?_ | refine G_skip ?_ | refine G_endblk ?_ | refine G_block ?_ | refine G_exit rfl ?_)
                refine G_cond_t rfl (decide_eq_true hx) ?_
                (repeat first | refine G_seq ?_ | refine G_skip ?_ | refine G_endblk ?_ | refine G_block ?_ | refine G_exit rfl ?_)
                refine G_region ?_
                refine GO_q rfl rfl (ev_move rfl) ?_
                (first | refine GO_q rfl rfl (ev_nilCheck rfl) ?_ | refine GO_q rfl rfl (ev_nilCheckF (by simp) rfl) ?_)
                refine GO_q rfl rfl (ev_fieldAddr rfl) ?_
                refine GO_q rfl rfl (ev_load rfl (by repeat' first | exact Ld.blk rfl | assumption | apply Ld.skip | apply Ld.app)) ?_
                refine GO_q rfl rfl (ev_move rfl) ?_
                refine GO_q rfl rfl (ev_move rfl) ?_
                refine GO_q rfl rfl (ev_move rfl) ?_
                refine GO_q rfl rfl (ev_move rfl) ?_
                refine GO_eff rfl rfl (eff_call rfl (Ctr.pre (M := blk c 39 [.int .i64 p.id, .int .i64 p.x, .int .i64 p.y] :: blk d 4 [.bool f] :: F :: L) (by (repeat first | exact en_refl | (apply en_blk; focus ((repeat' first | exact Pick.here | apply Pick.skip | apply Pick.app); done); focus rfl) | (apply en_own; focus ((repeat' first | exact Pick.here | apply Pick.skip | apply Pick.app); done); focus rfl) | (apply en_pick; focus ((repeat' first | exact Pick.here | apply Pick.skip | apply Pick.app); done)) | apply en_drop | apply en_app) <;> fail) (ih1 c d f p _ hin.2.1.skip))) ?_; rintro _ _ ⟨f1, p1, rfl, ht, rfl⟩
                refine GO_nil ?_
                (repeat first | refine G_seq ?_ | refine G_skip ?_ | refine G_endblk ?_ | refine G_block ?_ | refine G_exit rfl ?_)
                exact G_inv (f1, p1) ht ⟨rfl, rfl, rfl, rfl, rfl, trivial⟩ (by (repeat first | exact en_refl | (apply en_blk; focus ((repeat' first | exact Pick.here | apply Pick.skip | apply Pick.app); done); focus rfl) | (apply en_own; focus ((repeat' first | exact Pick.here | apply Pick.skip | apply Pick.app); done); focus rfl) | (apply en_pick; focus ((repeat' first | exact Pick.here | apply Pick.skip | apply Pick.app); done)) | apply en_drop | apply en_app) <;> fail)
              · skip
                (repeat first | refine G_seq ?_ | refine G_skip ?_ | refine G_endblk ?_ | refine G_block ?_ | refine G_exit rfl ?_)
                refine G_cond_f rfl (decide_eq_false hx) ?_
                (repeat first | refine G_seq ?_ | refine G_skip ?_ | refine G_endblk ?_ | refine G_block ?_ | refine G_exit rfl ?_)
                exact G_inv (f, p) (Top.out fun r hr => by have := hlo r hr; rw [← Bool.not_eq_true, sel_true]; omega) ⟨rfl, rfl, rfl, rfl, rfl, trivial⟩ (by (repeat first | exact en_refl | (apply en_blk; focus ((repeat' first | exact Pick.here | apply Pick.skip | apply Pick.app); done); focus rfl) | (apply en_own; focus ((repeat' first | exact Pick.here | apply Pick.skip | apply Pick.app); done); focus rfl) | (apply en_pick; focus ((repeat' first | exact Pick.here | apply Pick.skip | apply Pick.app); done)) | apply en_drop | apply en_app) <;> fail)
            · rintro ⟨f1, p1⟩ ht
              simp only at ht
              dsimp only
              (repeat first | refine G_seq ?_ | refine G_skip ?_ | refine G_endblk ?_ | refine G_block ?_ | refine G_exit rfl ?_)
              refine G_region ?_
              refine GO_q rfl rfl (ev_move rfl) ?_
              refine GO_q rfl rfl (ev_move rfl) ?_
              (first | refine GO_q rfl rfl (ev_nilCheck rfl) ?_ | refine GO_q rfl rfl (ev_nilCheckF (by simp) rfl) ?_)
              refine GO_q rfl rfl (ev_fieldAddr rfl) ?_
              refine GO_q rfl rfl (ev_fieldAddr rfl) ?_
              refine GO_q rfl rfl (ev_load rfl (by repeat' first | exact Ld.blk rfl | assumption | apply Ld.skip | apply Ld.app)) ?_
              refine GO_q rfl rfl (ev_geq rfl rfl) ?_
              refine GO_nil ?_
              by_cases hx : s.x ≤ x2
              · skip
                (repeat first | refine G_seq ?_ | refine G_skip ?_ | refine G_endblk ?_ | refine G_block ?_ | refine G_exit rfl ?_)
                refine G_cond_t rfl (decide_eq_true hx) ?_
                (repeat first | refine G_seq ?_ | refine G_skip ?_ | refine G_endblk ?_ | refine G_block ?_ | refine G_exit rfl ?_)
                refine G_region ?_
                refine GO_q rfl rfl (ev_move rfl) ?_
                (first | refine GO_q rfl rfl (ev_nilCheck rfl) ?_ | refine GO_q rfl rfl (ev_nilCheckF (by simp) rfl) ?_)
                refine GO_q rfl rfl (ev_fieldAddr rfl) ?_
                refine GO_q rfl rfl (ev_load rfl (by repeat' first | exact Ld.blk rfl | assumption | apply Ld.skip | apply Ld.app)) ?_
                refine GO_q rfl rfl (ev_move rfl) ?_
                refine GO_q rfl rfl (ev_move rfl) ?_
                refine GO_q rfl rfl (ev_move rfl) ?_
                refine GO_q rfl rfl (ev_move rfl) ?_
                refine GO_eff rfl rfl (eff_call rfl (Ctr.pre (M := blk c 39 [.int .i64 p1.id, .int .i64 p1.x, .int .i64 p1.y] :: blk d 4 [.bool f1] :: F :: L) (by (repeat first | exact en_refl | (apply en_blk; focus ((repeat' first | exact Pick.here | apply Pick.skip | apply Pick.app); done); focus rfl) | (apply en_own; focus ((repeat' first | exact Pick.here | apply Pick.skip | apply Pick.app); done); focus rfl) | (apply en_pick; focus ((repeat' first | exact Pick.here | apply Pick.skip | apply Pick.app); done)) | apply en_drop | apply en_app) <;> fail) (ih2 c d f1 p1 _ hin.2.2.skip))) ?_; rintro _ _ ⟨f2, p2, rfl, ht2, rfl⟩
                refine GO_nil ?_
                (repeat first | refine G_seq ?_ | refine G_skip ?_ | refine G_endblk ?_ | refine G_block ?_ | refine G_exit rfl ?_)
                exact G_end (L' := blk c 39 [.int .i64 p2.id, .int .i64 p2.x, .int .i64 p2.y] :: blk d 4 [.bool f2] :: L) rfl .nil (by (repeat first | exact en_refl | (apply en_blk; focus ((repeat' first | exact Pick.here | apply Pick.skip | apply Pick.app); done); focus rfl) | (apply en_own; focus ((repeat' first | exact Pick.here | apply Pick.skip | apply Pick.app); done); focus rfl) | (apply en_pick; focus ((repeat' first | exact Pick.here | apply Pick.skip | apply Pick.app); done)) | apply en_drop | apply en_app) <;> fail) ⟨f2, p2, rfl, Top.cons hs1 (ht.app ht2), rfl⟩
              · skip
                (repeat first | refine G_seq ?_ | refine G_skip ?_ | refine G_endblk ?_ | refine G_block ?_ | refine G_exit rfl ?_)
                refine G_cond_f rfl (decide_eq_false hx) ?_
                (repeat first | refine G_seq ?_ | refine G_skip ?_ | refine G_endblk ?_ | refine G_block ?_ | refine G_exit rfl ?_)
                exact G_end (L' := blk c 39 [.int .i64 p1.id, .int .i64 p1.x, .int .i64 p1.y] :: blk d 4 [.bool f1] :: L) rfl .nil (by (repeat first | exact en_refl | (apply en_blk; focus ((repeat' first | exact Pick.here | apply Pick.skip | apply Pick.app); done); focus rfl) | (apply en_own; focus ((repeat' first | exact Pick.here | apply Pick.skip | apply Pick.app); done); focus rfl) | (apply en_pick; focus ((repeat' first | exact Pick.here | apply Pick.skip | apply Pick.app); done)) | apply en_drop | apply en_app) <;> fail) ⟨f1, p1, rfl, Top.cons hs1 (ht.app (Top.out fun r hr => by have := hhi r hr; rw [← Bool.not_eq_true, sel_true]; omega)), rfl⟩
def TopR (x1 x2 : Int) (l : List Pt) (v : Value) : Prop := ∃ (f : Bool) (p : Pt), v = .tuple #[p.v, .bool f] ∧ Top x1 x2 l false ⟨0, 0, 0⟩ f p
theorem PHighest_ctr0 (b : Nat) (x : PA) (most : Int) (x1 x2 : Int) (L : List HP) (h : LdN L b 0 2 (treeC x most)) (hx : PIn L x) (hok : x.t.Ok) :
    Ctr Try.prog 38 #[.pointer (some ⟨b, 0, none⟩), .int .i64 x1, .int .i64 x2] L fun v L' => TopR x1 x2 x.t.els v ∧ L' = L := by
  refine Ctr_of (fn := Try.f38) (n := 15) Try.func38 rfl rfl rfl ?_
  intro g F
  (repeat first | refine G_seq ?_ | refine G_skip ?_ | refine G_endblk ?_ | refine G_block ?_ | refine G_exit rfl ?_)
  refine G_region ?_
  refine GO_eff rfl rfl eff_alloc ?_; rintro _ _ ⟨b6, rfl, rfl⟩
  refine GO_eff rfl rfl eff_alloc ?_; rintro _ _ ⟨b7, rfl, rfl⟩
  refine GO_nil ?_
  (repeat first | refine G_seq ?_ | refine G_skip ?_ | refine G_endblk ?_ | refine G_block ?_ | refine G_exit rfl ?_)
  refine G_region ?_
  refine GO_q rfl rfl (ev_move rfl) ?_
  refine GO_eff rfl rfl (eff_call rfl (top_ctr b x most _ h.skip.skip.skip)) ?_; rintro _ _ ⟨rfl, rfl⟩
  refine GO_q rfl rfl (ev_move rfl) ?_
  refine GO_q rfl rfl (ev_move rfl) ?_
  refine GO_eff rfl rfl (eff_call rfl (Ctr.pre (M := blk b6 39 [.int .i64 (⟨0, 0, 0⟩ : Pt).id, .int .i64 (⟨0, 0, 0⟩ : Pt).x, .int .i64 (⟨0, 0, 0⟩ : Pt).y] :: blk b7 4 [.bool false] :: F :: L) (by (repeat first | exact en_refl | (apply en_blk; focus ((repeat' first | exact Pick.here | apply Pick.skip | apply Pick.app); done); focus rfl) | (apply en_own; focus ((repeat' first | exact Pick.here | apply Pick.skip | apply Pick.app); done); focus rfl) | (apply en_pick; focus ((repeat' first | exact Pick.here | apply Pick.skip | apply Pick.app); done)) | apply en_drop | apply en_app) <;> fail) (highest_ctr x1 x2 x b6 b7 false ⟨0, 0, 0⟩ _ hx.skip hok))) ?_; rintro _ _ ⟨f1, p1, rfl, ht, rfl⟩
  refine GO_nil ?_
  (repeat first | refine G_seq ?_ | refine G_skip ?_ | refine G_endblk ?_ | refine G_block ?_ | refine G_exit rfl ?_)
  refine G_region ?_
  refine GO_q rfl rfl (ev_loadN rfl (by repeat' first | exact LdN.blk rfl | assumption | apply LdN.skip | apply LdN.app)) ?_
  refine GO_q rfl rfl (ev_load rfl (by repeat' first | exact Ld.blk rfl | assumption | apply Ld.skip | apply Ld.app)) ?_
  refine GO_eff rfl rfl (eff_storeN rfl rfl rfl rfl (by repeat' first | exact Upd.here rfl | apply Upd.skip | apply Upd.app)) ?_; rintro _ _ ⟨rfl, rfl⟩
  refine GO_eff rfl rfl (eff_store rfl rfl rfl (by repeat' first | exact Upd.here rfl | apply Upd.skip | apply Upd.app)) ?_; rintro _ _ ⟨rfl, rfl⟩
  refine GO_nil ?_
  (repeat first | refine G_seq ?_ | refine G_skip ?_ | refine G_endblk ?_ | refine G_block ?_ | refine G_exit rfl ?_)
  refine G_ret rfl (.cell rfl (loadN_run (by repeat' first | exact LdN.blk rfl | assumption | apply LdN.skip | apply LdN.app)) (.cell rfl (load_run (by repeat' first | exact Ld.blk rfl | assumption | apply Ld.skip | apply Ld.app)) .nil)) (by (repeat first | exact fun _ s => s | apply en_keep | apply en_drop | apply en_app) <;> fail) ⟨⟨f1, p1, rfl, ht⟩, rfl⟩
theorem PHighest_ctr (b : Nat) (most : Int) (l : List Pt) (x1 x2 : Int) (L : List HP) : Ctr Try.prog 38 #[.pointer (some ⟨b, 0, none⟩), .int .i64 x1, .int .i64 x2] (treeS b most l :: L) fun v L' => (∃ m : List Pt, m.Perm l ∧ TopR x1 x2 m v) ∧ L' = treeS b most l :: L :=
  Ctr.tree0 (R := fun v => ∃ m : List Pt, m.Perm l ∧ TopR x1 x2 m v) fun x L' o h hx => (PHighest_ctr0 b x most x1 x2 L' h hx o.ok).mono fun v L'' ⟨e1, e2⟩ => ⟨⟨_, o.perm, e1⟩, e2⟩
theorem up_pos (p q : Pt) : 0 < up p q ↔ und q p = true := by
  rw [und_iff]
  exact Pt.cmp_gt _ _
theorem RHighest_ctr0 (b : Nat) (A : Option Addr) (c : Nat) (most : Int) (x1 x2 : Int) (l : List Pt) (L : List HP) (h : LdN L b 0 2 [.slice A l.length c, .int .i64 most]) (hl : Rd L A l.length l) (hn : l.length ≤ 100000) :
    Ctr Try.prog 39 #[.pointer (some ⟨b, 0, none⟩), .int .i64 x1, .int .i64 x2] L fun v L' => TopR x1 x2 l v ∧ L' = L := by
  have h1 : Ld L ⟨b, 0 + 0, none⟩ (.slice A l.length c) := h.at_ (i := 0) rfl
  refine Ctr_of (fn := Try.f39) (n := 62) Try.func39 rfl rfl rfl ?_
  intro g F
  (repeat first | refine G_seq ?_ | refine G_skip ?_ | refine G_endblk ?_ | refine G_block ?_ | refine G_exit rfl ?_)
  refine G_region ?_
  refine GO_eff rfl rfl eff_alloc ?_; rintro _ _ ⟨b6, rfl, rfl⟩
  refine GO_q rfl rfl (ev_assign rfl) ?_
  refine GO_nil ?_
  (repeat first | refine G_seq ?_ | refine G_skip ?_ | refine G_endblk ?_ | refine G_block ?_ | refine G_exit rfl ?_)
  refine G_region ?_
  refine GO_q rfl rfl (ev_build rfl rfl) ?_
  refine GO_eff rfl rfl eff_alloc ?_; rintro _ _ ⟨b8, rfl, rfl⟩
  refine GO_eff rfl rfl (eff_storeN rfl rfl rfl rfl (by repeat' first | exact Upd.here rfl | apply Upd.skip | apply Upd.app)) ?_; rintro _ _ ⟨rfl, rfl⟩
  refine GO_q rfl rfl (ev_assign rfl) ?_
  refine GO_nil ?_
  (repeat first | refine G_seq ?_ | refine G_skip ?_ | refine G_endblk ?_ | refine G_block ?_ | refine G_exit rfl ?_)
  refine G_region ?_
  refine GO_q rfl rfl (ev_assign rfl) ?_
  refine GO_nil ?_
  (repeat first | refine G_seq ?_ | refine G_skip ?_ | refine G_endblk ?_ | refine G_block ?_ | refine G_exit rfl ?_)
  refine G_loop (ι := Nat × Bool × Pt) (fun x => [(0, .pointer (some ⟨b, 0, none⟩)), (1, .int .i64 x1), (2, .int .i64 x2), (6, .pointer (some ⟨b6, 0, none⟩)), (8, .pointer (some ⟨b8, 0, none⟩)), (9, .bool x.2.1), (10, .int .i64 (x.1 : Nat))]) (fun x => blk b8 39 [.int .i64 x.2.2.id, .int .i64 x.2.2.x, .int .i64 x.2.2.y] :: blk b6 39 [.int .i64 0, .int .i64 0, .int .i64 0] :: F :: L)
    (fun x => x.1 ≤ l.length ∧ Top x1 x2 (l.take x.1) false ⟨0, 0, 0⟩ x.2.1 x.2.2) (fun x => l.length - x.1) (0, false, ⟨0, 0, 0⟩) ⟨Nat.zero_le _, Top.out (fun _ h => by cases h)⟩ ⟨rfl, rfl, rfl, rfl, rfl, rfl, rfl, trivial⟩ (by (repeat first | exact en_refl | (apply en_blk; focus ((repeat' first | exact Pick.here | apply Pick.skip | apply Pick.app); done); focus rfl) | (apply en_own; focus ((repeat' first | exact Pick.here | apply Pick.skip | apply Pick.app); done); focus rfl) | (apply en_pick; focus ((repeat' first | exact Pick.here | apply Pick.skip | apply Pick.app); done)) | apply en_drop | apply en_app) <;> fail) ?_
  rintro ⟨k, f, p⟩ ⟨f1, f2⟩
  simp only at f1 f2
  dsimp only
  (repeat first | refine G_seq ?_ | refine G_skip ?_ | refine G_endblk ?_ | refine G_block ?_ | refine G_exit rfl ?_)
  refine G_region ?_
  refine GO_q rfl rfl (ev_move rfl) ?_
  refine GO_q rfl rfl (ev_move rfl) ?_
  (first | refine GO_q rfl rfl (ev_nilCheck rfl) ?_ | refine GO_q rfl rfl (ev_nilCheckF (by simp) rfl) ?_)
  refine GO_q rfl rfl (ev_fieldAddr rfl) ?_
  refine GO_q rfl rfl (ev_load rfl (by repeat' first | exact Ld.blk rfl | assumption | apply Ld.skip | apply Ld.app)) ?_
  refine GO_q rfl rfl (ev_len rfl) ?_
  (first | refine GO_q rfl rfl (ev_lssN rfl rfl) ?_ | refine GO_q rfl rfl (ev_lss rfl rfl) ?_)
  refine GO_nil ?_
  (repeat first | refine G_seq ?_ | refine G_skip ?_ | refine G_endblk ?_ | refine G_block ?_ | refine G_exit rfl ?_)
  refine G_cond rfl (fun h4 => ?_) (fun h4 => ?_)
  · obtain ⟨lb, lo, rfl, hx⟩ := hl.at_ (by omega)
    have g1 : l[k]? = some l[k] := List.getElem?_eq_getElem (by omega)
    have y1 := hx _ _ g1
    have s1 : l.take (k + 1) = l.take k ++ [l[k]] := List.take_succ_eq_append_getElem (by omega)
    generalize l[k] = u at *
    have z1 : LdN L lb (lo + k * 3) 3 [.int .i64 u.id, .int .i64 u.x, .int .i64 u.y] := y1
    (repeat first | refine G_seq ?_ | refine G_skip ?_ | refine G_endblk ?_ | refine G_block ?_ | refine G_exit rfl ?_)
    refine G_region ?_
    refine GO_q rfl rfl (ev_move rfl) ?_
    (first | refine GO_q rfl rfl (ev_nilCheck rfl) ?_ | refine GO_q rfl rfl (ev_nilCheckF (by simp) rfl) ?_)
    refine GO_q rfl rfl (ev_fieldAddr rfl) ?_
    refine GO_q rfl rfl (ev_load rfl (by repeat' first | exact Ld.blk rfl | assumption | apply Ld.skip | apply Ld.app)) ?_
    refine GO_q rfl rfl (ev_move rfl) ?_
    (first | refine GO_q rfl rfl (ev_indexAddrN rfl rfl (by first | omega | (simp; done) | (simp; omega))) ?_ | refine GO_q rfl rfl (ev_indexAddr rfl rfl (by first | omega | (simp; done) | (simp; omega)) (by first | omega | (simp; done) | (simp; omega))) ?_)
    refine GO_q rfl rfl (ev_loadN rfl (by repeat' first | exact LdN.blk rfl | assumption | apply LdN.skip | apply LdN.app)) ?_
    refine GO_eff rfl rfl eff_alloc ?_; rintro _ _ ⟨b11, rfl, rfl⟩
    refine GO_eff rfl rfl (eff_storeN rfl rfl rfl rfl (by repeat' first | exact Upd.here rfl | apply Upd.skip | apply Upd.app)) ?_; rintro _ _ ⟨rfl, rfl⟩
    refine GO_nil ?_
    by_cases hs : sel x1 x2 u = true
    · have hs2 := sel_true.1 hs
      (repeat first | refine G_seq ?_ | refine G_skip ?_ | refine G_endblk ?_ | refine G_block ?_ | refine G_exit rfl ?_)
      refine G_region ?_
      refine GO_q rfl rfl (ev_fieldAddr rfl) ?_
      refine GO_q rfl rfl (ev_load rfl (by repeat' first | exact Ld.blk rfl | assumption | apply Ld.skip | apply Ld.app)) ?_
      refine GO_q rfl rfl (ev_move rfl) ?_
      (first | refine GO_q rfl rfl (ev_lssN rfl rfl) ?_ | refine GO_q rfl rfl (ev_lss rfl rfl) ?_)
      refine GO_q rfl rfl (ev_move rfl) ?_
      refine GO_yes rfl rfl rfl (decide_eq_false (by omega)) ?_
      refine GO_q rfl rfl (ev_fieldAddr rfl) ?_
      refine GO_yes rfl rfl rfl (decide_eq_false (by omega)) ?_
      refine GO_q rfl rfl (ev_load rfl (by repeat' first | exact Ld.blk rfl | assumption | apply Ld.skip | apply Ld.app)) ?_
      refine GO_yes rfl rfl rfl (decide_eq_false (by omega)) ?_
      refine GO_q rfl rfl (ev_move rfl) ?_
      refine GO_yes rfl rfl rfl (decide_eq_false (by omega)) ?_
      refine GO_q rfl rfl (ev_gtr rfl rfl) ?_
      refine GO_q rfl rfl (ev_pick_f rfl (decide_eq_false (by omega)) rfl) ?_
      refine GO_nil ?_
      (repeat first | refine G_seq ?_ | refine G_skip ?_ | refine G_endblk ?_ | refine G_block ?_ | refine G_exit rfl ?_)
      refine G_cond_f rfl (decide_eq_false (by omega)) ?_
      by_cases hb : f = true ∧ und p u = false
      · obtain ⟨rfl, hu⟩ := hb
        have hup : u = p ∨ und u p = true := by
          by_cases e : p = u
          · exact .inl e.symm
          · exact .inr (und_total e hu)
        (repeat first | refine G_seq ?_ | refine G_skip ?_ | refine G_endblk ?_ | refine G_block ?_ | refine G_exit rfl ?_)
        refine G_region ?_
        refine GO_q rfl rfl (ev_move rfl) ?_
        (first | refine GO_q rfl rfl (ev_notP rfl) ?_ | refine GO_q rfl rfl (ev_not rfl) ?_)
        refine GO_q rfl rfl (ev_move rfl) ?_
        refine GO_yes rfl rfl rfl rfl ?_
        refine GO_q rfl rfl (ev_fieldAddr rfl) ?_
        refine GO_yes rfl rfl rfl rfl ?_
        refine GO_q rfl rfl (ev_load rfl (by repeat' first | exact Ld.blk rfl | assumption | apply Ld.skip | apply Ld.app)) ?_
        refine GO_yes rfl rfl rfl rfl ?_
        refine GO_q rfl rfl (ev_fieldAddr rfl) ?_
        refine GO_yes rfl rfl rfl rfl ?_
        refine GO_q rfl rfl (ev_load rfl (by repeat' first | exact Ld.blk rfl | assumption | apply Ld.skip | apply Ld.app)) ?_
        refine GO_yes rfl rfl rfl rfl ?_
        refine GO_q rfl rfl (ev_fieldAddr rfl) ?_
        refine GO_yes rfl rfl rfl rfl ?_
        refine GO_q rfl rfl (ev_load rfl (by repeat' first | exact Ld.blk rfl | assumption | apply Ld.skip | apply Ld.app)) ?_
        refine GO_yes rfl rfl rfl rfl ?_
        refine GO_q rfl rfl (ev_buildA rfl rfl) ?_
        refine GO_yes rfl rfl rfl rfl ?_
        refine GO_q rfl rfl (ev_fieldAddr rfl) ?_
        refine GO_yes rfl rfl rfl rfl ?_
        refine GO_q rfl rfl (ev_load rfl (by repeat' first | exact Ld.blk rfl | assumption | apply Ld.skip | apply Ld.app)) ?_
        refine GO_yes rfl rfl rfl rfl ?_
        refine GO_q rfl rfl (ev_fieldAddr rfl) ?_
        refine GO_yes rfl rfl rfl rfl ?_
        refine GO_q rfl rfl (ev_load rfl (by repeat' first | exact Ld.blk rfl | assumption | apply Ld.skip | apply Ld.app)) ?_
        refine GO_yes rfl rfl rfl rfl ?_
        refine GO_q rfl rfl (ev_fieldAddr rfl) ?_
        refine GO_yes rfl rfl rfl rfl ?_
        refine GO_q rfl rfl (ev_load rfl (by repeat' first | exact Ld.blk rfl | assumption | apply Ld.skip | apply Ld.app)) ?_
        refine GO_yes rfl rfl rfl rfl ?_
        refine GO_q rfl rfl (ev_buildA rfl rfl) ?_
        refine GO_yes rfl rfl rfl rfl ?_
        refine GO_eff rfl rfl (eff_call rfl (Three_ctr u.y u.x u.id p.y p.x p.id _)) ?_; rintro _ _ ⟨rfl, rfl⟩
        refine GO_yes rfl rfl rfl rfl ?_
        refine GO_q rfl rfl (ev_gtr rfl rfl) ?_
        refine GO_q rfl rfl (ev_pick_f rfl rfl rfl) ?_
        refine GO_nil ?_
        (repeat first | refine G_seq ?_ | refine G_skip ?_ | refine G_endblk ?_ | refine G_block ?_ | refine G_exit rfl ?_)
        refine G_cond_f rfl (decide_eq_false (by rw [three_up, up_pos, hu]; decide)) ?_
        (repeat first | refine G_seq ?_ | refine G_skip ?_ | refine G_endblk ?_ | refine G_block ?_ | refine G_exit rfl ?_)
        refine G_region ?_
        refine GO_q rfl rfl (ev_move rfl) ?_
        (first | refine GO_q rfl rfl (ev_addN (q := 1) rfl rfl (by first | omega | (simp; done) | (simp; omega))) ?_ | refine GO_q rfl rfl (ev_add rfl rfl (by first | omega | (simp; done) | (simp; omega))) ?_)
        refine GO_q rfl rfl (ev_assign rfl) ?_
        refine GO_nil ?_
        (repeat first | refine G_seq ?_ | refine G_skip ?_ | refine G_endblk ?_ | refine G_block ?_ | refine G_exit rfl ?_)
        exact G_round (k + 1, true, p) ⟨by simp only; omega, by simp only; rw [s1]; exact f2.app (Top.low (fun r hr => by rw [List.mem_singleton.1 hr]; exact hup))⟩ (by simp only; omega) ⟨rfl, rfl, rfl, rfl, rfl, rfl, rfl, trivial⟩ (by (repeat first | exact en_refl | (apply en_blk; focus ((repeat' first | exact Pick.here | apply Pick.skip | apply Pick.app); done); focus rfl) | (apply en_own; focus ((repeat' first | exact Pick.here | apply Pick.skip | apply Pick.app); done); focus rfl) | (apply en_pick; focus ((repeat' first | exact Pick.here | apply Pick.skip | apply Pick.app); done)) | apply en_drop | apply en_app) <;> fail)
      · have hk : f = true → und p u = true := fun e => by
          cases hu : und p u with
          | true => rfl
          | false => exact absurd ⟨e, hu⟩ hb
        by_cases hfe : f = true
        case' pos =>
          have hu := hk hfe
          (repeat first | refine G_seq ?_ | refine G_skip ?_ | refine G_endblk ?_ | refine G_block ?_ | refine G_exit rfl ?_)
          refine G_region ?_
          refine GO_q rfl rfl (ev_move rfl) ?_
          (first | refine GO_q rfl rfl (ev_notP rfl) ?_ | refine GO_q rfl rfl (ev_not rfl) ?_)
          refine GO_q rfl rfl (ev_move rfl) ?_
          refine GO_yes rfl rfl rfl (by simp [hfe]) ?_
          refine GO_q rfl rfl (ev_fieldAddr rfl) ?_
          refine GO_yes rfl rfl rfl (by simp [hfe]) ?_
          refine GO_q rfl rfl (ev_load rfl (by repeat' first | exact Ld.blk rfl | assumption | apply Ld.skip | apply Ld.app)) ?_
          refine GO_yes rfl rfl rfl (by simp [hfe]) ?_
          refine GO_q rfl rfl (ev_fieldAddr rfl) ?_
          refine GO_yes rfl rfl rfl (by simp [hfe]) ?_
          refine GO_q rfl rfl (ev_load rfl (by repeat' first | exact Ld.blk rfl | assumption | apply Ld.skip | apply Ld.app)) ?_
          refine GO_yes rfl rfl rfl (by simp [hfe]) ?_
          refine GO_q rfl rfl (ev_fieldAddr rfl) ?_
          refine GO_yes rfl rfl rfl (by simp [hfe]) ?_
          refine GO_q rfl rfl (ev_load rfl (by repeat' first | exact Ld.blk rfl | assumption | apply Ld.skip | apply Ld.app)) ?_
          refine GO_yes rfl rfl rfl (by simp [hfe]) ?_
          refine GO_q rfl rfl (ev_buildA rfl rfl) ?_
          refine GO_yes rfl rfl rfl (by simp [hfe]) ?_
          refine GO_q rfl rfl (ev_fieldAddr rfl) ?_
          refine GO_yes rfl rfl rfl (by simp [hfe]) ?_
          refine GO_q rfl rfl (ev_load rfl (by repeat' first | exact Ld.blk rfl | assumption | apply Ld.skip | apply Ld.app)) ?_
          refine GO_yes rfl rfl rfl (by simp [hfe]) ?_
          refine GO_q rfl rfl (ev_fieldAddr rfl) ?_
          refine GO_yes rfl rfl rfl (by simp [hfe]) ?_
          refine GO_q rfl rfl (ev_load rfl (by repeat' first | exact Ld.blk rfl | assumption | apply Ld.skip | apply Ld.app)) ?_
          refine GO_yes rfl rfl rfl (by simp [hfe]) ?_
          refine GO_q rfl rfl (ev_fieldAddr rfl) ?_
          refine GO_yes rfl rfl rfl (by simp [hfe]) ?_
          refine GO_q rfl rfl (ev_load rfl (by repeat' first | exact Ld.blk rfl | assumption | apply Ld.skip | apply Ld.app)) ?_
          refine GO_yes rfl rfl rfl (by simp [hfe]) ?_
          refine GO_q rfl rfl (ev_buildA rfl rfl) ?_
          refine GO_yes rfl rfl rfl (by simp [hfe]) ?_
          refine GO_eff rfl rfl (eff_call rfl (Three_ctr u.y u.x u.id p.y p.x p.id _)) ?_; rintro _ _ ⟨rfl, rfl⟩
          refine GO_yes rfl rfl rfl (by simp [hfe]) ?_
          refine GO_q rfl rfl (ev_gtr rfl rfl) ?_
          refine GO_q rfl rfl (ev_pick_f rfl (by simp [hfe]) rfl) ?_
          refine GO_nil ?_
          (repeat first | refine G_seq ?_ | refine G_skip ?_ | refine G_endblk ?_ | refine G_block ?_ | refine G_exit rfl ?_)
          refine G_cond_t rfl (decide_eq_true (by rw [three_up, up_pos]; exact hu)) ?_
        case' neg =>
          have hfe2 : f = false := by simpa using hfe
          (repeat first | refine G_seq ?_ | refine G_skip ?_ | refine G_endblk ?_ | refine G_block ?_ | refine G_exit rfl ?_)
          refine G_region ?_
          refine GO_q rfl rfl (ev_move rfl) ?_
          (first | refine GO_q rfl rfl (ev_notP rfl) ?_ | refine GO_q rfl rfl (ev_not rfl) ?_)
          refine GO_q rfl rfl (ev_move rfl) ?_
          refine GO_no rfl rfl rfl (by simp [hfe2]) ?_
          refine GO_no rfl rfl rfl (by simp [hfe2]) ?_
          refine GO_no rfl rfl rfl (by simp [hfe2]) ?_
          refine GO_no rfl rfl rfl (by simp [hfe2]) ?_
          refine GO_no rfl rfl rfl (by simp [hfe2]) ?_
          refine GO_no rfl rfl rfl (by simp [hfe2]) ?_
          refine GO_no rfl rfl rfl (by simp [hfe2]) ?_
          refine GO_no rfl rfl rfl (by simp [hfe2]) ?_
          refine GO_no rfl rfl rfl (by simp [hfe2]) ?_
          refine GO_no rfl rfl rfl (by simp [hfe2]) ?_
          refine GO_no rfl rfl rfl (by simp [hfe2]) ?_
          refine GO_no rfl rfl rfl (by simp [hfe2]) ?_
          refine GO_no rfl rfl rfl (by simp [hfe2]) ?_
          refine GO_no rfl rfl rfl (by simp [hfe2]) ?_
          refine GO_no rfl rfl rfl (by simp [hfe2]) ?_
          refine GO_no rfl rfl rfl (by simp [hfe2]) ?_
          refine GO_q rfl rfl (ev_pick_t rfl (by simp [hfe2]) rfl) ?_
          refine GO_nil ?_
          (repeat first | refine G_seq ?_ | refine G_skip ?_ | refine G_endblk ?_ | refine G_block ?_ | refine G_exit rfl ?_)
          refine G_cond_t rfl rfl ?_
        all_goals
          (repeat first | refine G_seq ?_ | refine G_skip ?_ | refine G_endblk ?_ | refine G_block ?_ | refine G_exit rfl ?_)
          refine G_region ?_
          refine GO_q rfl rfl (ev_loadN rfl (by repeat' first | exact LdN.blk rfl | assumption | apply LdN.skip | apply LdN.app)) ?_
          refine GO_eff rfl rfl (eff_storeN rfl rfl rfl rfl (by repeat' first | exact Upd.here rfl | apply Upd.skip | apply Upd.app)) ?_; rintro _ _ ⟨rfl, rfl⟩
          refine GO_q rfl rfl (ev_assign rfl) ?_
          refine GO_nil ?_
          (repeat first | refine G_seq ?_ | refine G_skip ?_ | refine G_endblk ?_ | refine G_block ?_ | refine G_exit rfl ?_)
          refine G_region ?_
          refine GO_q rfl rfl (ev_move rfl) ?_
          (first | refine GO_q rfl rfl (ev_addN (q := 1) rfl rfl (by first | omega | (simp; done) | (simp; omega))) ?_ | refine GO_q rfl rfl (ev_add rfl rfl (by first | omega | (simp; done) | (simp; omega))) ?_)
          refine GO_q rfl rfl (ev_assign rfl) ?_
          refine GO_nil ?_
          (repeat first | refine G_seq ?_ | refine G_skip ?_ | refine G_endblk ?_ | refine G_block ?_ | refine G_exit rfl ?_)
          exact G_round (k + 1, true, u) ⟨by simp only; omega, by simp only; rw [s1]; exact f2.app (Top.new (List.mem_singleton.2 rfl) hs (fun r hr => .inl (List.mem_singleton.1 hr)) hk)⟩ (by simp only; omega) ⟨rfl, rfl, rfl, rfl, rfl, rfl, rfl, trivial⟩ (by (repeat first | exact en_refl | (apply en_blk; focus ((repeat' first | exact Pick.here | apply Pick.skip | apply Pick.app); done); focus rfl) | (apply en_own; focus ((repeat' first | exact Pick.here | apply Pick.skip | apply Pick.app); done); focus rfl) | (apply en_pick; focus ((repeat' first | exact Pick.here | apply Pick.skip | apply Pick.app); done)) | apply en_drop | apply en_app) <;> fail)
    · have hs1 : sel x1 x2 u = false := by simpa using hs
      by_cases hx1 : u.x < x1
      case' pos =>
        (repeat first | refine G_seq ?_ | refine G_skip ?_ | refine G_endblk ?_ | refine G_block ?_ | refine G_exit rfl ?_)
        refine G_region ?_
        refine GO_q rfl rfl (ev_fieldAddr rfl) ?_
        refine GO_q rfl rfl (ev_load rfl (by repeat' first | exact Ld.blk rfl | assumption | apply Ld.skip | apply Ld.app)) ?_
        refine GO_q rfl rfl (ev_move rfl) ?_
        (first | refine GO_q rfl rfl (ev_lssN rfl rfl) ?_ | refine GO_q rfl rfl (ev_lss rfl rfl) ?_)
        refine GO_q rfl rfl (ev_move rfl) ?_
        refine GO_no rfl rfl rfl (decide_eq_true hx1) ?_
        refine GO_no rfl rfl rfl (decide_eq_true hx1) ?_
        refine GO_no rfl rfl rfl (decide_eq_true hx1) ?_
        refine GO_no rfl rfl rfl (decide_eq_true hx1) ?_
        refine GO_q rfl rfl (ev_pick_t rfl (decide_eq_true hx1) rfl) ?_
        refine GO_nil ?_
        (repeat first | refine G_seq ?_ | refine G_skip ?_ | refine G_endblk ?_ | refine G_block ?_ | refine G_exit rfl ?_)
        refine G_cond_t rfl rfl ?_
      case' neg =>
        (repeat first | refine G_seq ?_ | refine G_skip ?_ | refine G_endblk ?_ | refine G_block ?_ | refine G_exit rfl ?_)
        refine G_region ?_
        refine GO_q rfl rfl (ev_fieldAddr rfl) ?_
        refine GO_q rfl rfl (ev_load rfl (by repeat' first | exact Ld.blk rfl | assumption | apply Ld.skip | apply Ld.app)) ?_
        refine GO_q rfl rfl (ev_move rfl) ?_
        (first | refine GO_q rfl rfl (ev_lssN rfl rfl) ?_ | refine GO_q rfl rfl (ev_lss rfl rfl) ?_)
        refine GO_q rfl rfl (ev_move rfl) ?_
        refine GO_yes rfl rfl rfl (decide_eq_false hx1) ?_
        refine GO_q rfl rfl (ev_fieldAddr rfl) ?_
        refine GO_yes rfl rfl rfl (decide_eq_false hx1) ?_
        refine GO_q rfl rfl (ev_load rfl (by repeat' first | exact Ld.blk rfl | assumption | apply Ld.skip | apply Ld.app)) ?_
        refine GO_yes rfl rfl rfl (decide_eq_false hx1) ?_
        refine GO_q rfl rfl (ev_move rfl) ?_
        refine GO_yes rfl rfl rfl (decide_eq_false hx1) ?_
        refine GO_q rfl rfl (ev_gtr rfl rfl) ?_
        refine GO_q rfl rfl (ev_pick_f rfl (decide_eq_false hx1) rfl) ?_
        refine GO_nil ?_
        (repeat first | refine G_seq ?_ | refine G_skip ?_ | refine G_endblk ?_ | refine G_block ?_ | refine G_exit rfl ?_)
        refine G_cond_t rfl (decide_eq_true (by rw [sel_true] at hs; omega)) ?_
      all_goals
        (repeat first | refine G_seq ?_ | refine G_skip ?_ | refine G_endblk ?_ | refine G_block ?_ | refine G_exit rfl ?_)
        (repeat first | refine G_seq ?_ | refine G_skip ?_ | refine G_endblk ?_ | refine G_block ?_ | refine G_exit rfl ?_)
        refine G_region ?_
        refine GO_q rfl rfl (ev_move rfl) ?_
        (first | refine GO_q rfl rfl (ev_addN (q := 1) rfl rfl (by first | omega | (simp; done) | (simp; omega))) ?_ | refine GO_q rfl rfl (ev_add rfl rfl (by first | omega | (simp; done) | (simp; omega))) ?_)
        refine GO_q rfl rfl (ev_assign rfl) ?_
        refine GO_nil ?_
        (repeat first | refine G_seq ?_ | refine G_skip ?_ | refine G_endblk ?_ | refine G_block ?_ | refine G_exit rfl ?_)
        exact G_round (k + 1, f, p) ⟨by simp only; omega, by simp only; rw [s1]; exact f2.app (Top.out (fun r hr => by rw [List.mem_singleton.1 hr]; exact hs1))⟩ (by simp only; omega) ⟨rfl, rfl, rfl, rfl, rfl, rfl, rfl, trivial⟩ (by (repeat first | exact en_refl | (apply en_blk; focus ((repeat' first | exact Pick.here | apply Pick.skip | apply Pick.app); done); focus rfl) | (apply en_own; focus ((repeat' first | exact Pick.here | apply Pick.skip | apply Pick.app); done); focus rfl) | (apply en_pick; focus ((repeat' first | exact Pick.here | apply Pick.skip | apply Pick.app); done)) | apply en_drop | apply en_app) <;> fail)
  · have e : k = l.length := by omega
    subst e
    rw [List.take_length] at f2
    (repeat first | refine G_seq ?_ | refine G_skip ?_ | refine G_endblk ?_ | refine G_block ?_ | refine G_exit rfl ?_)
    refine G_region ?_
    refine GO_q rfl rfl (ev_loadN rfl (by repeat' first | exact LdN.blk rfl | assumption | apply LdN.skip | apply LdN.app)) ?_
    refine GO_q rfl rfl (ev_move rfl) ?_
    refine GO_eff rfl rfl (eff_storeN rfl rfl rfl rfl (by repeat' first | exact Upd.here rfl | apply Upd.skip | apply Upd.app)) ?_; rintro _ _ ⟨rfl, rfl⟩
    refine GO_q rfl rfl (ev_assign rfl) ?_
    refine GO_nil ?_
    (repeat first | refine G_seq ?_ | refine G_skip ?_ | refine G_endblk ?_ | refine G_block ?_ | refine G_exit rfl ?_)
    refine G_ret rfl (.cell rfl (loadN_run (by repeat' first | exact LdN.blk rfl | assumption | apply LdN.skip | apply LdN.app)) (.tmp rfl .nil)) (by (repeat first | exact fun _ s => s | apply en_keep | apply en_drop | apply en_app) <;> fail) ⟨⟨f, p, rfl, f2⟩, rfl⟩
theorem RHighest_ctr (b : Nat) (most : Int) (x1 x2 : Int) (l : List Pt) (L : List HP) (hn : l.length ≤ 100000) : Ctr Try.prog 39 #[.pointer (some ⟨b, 0, none⟩), .int .i64 x1, .int .i64 x2] (setS b most l :: L) fun v L' => TopR x1 x2 l v ∧ L' = setS b most l :: L :=
  Ctr.set0 (R := fun v => TopR x1 x2 l v) fun A c L' h hl => RHighest_ctr0 b A c most x1 x2 l L' h hl hn
end Go.Proofs.Ytalcanejhniepaa
