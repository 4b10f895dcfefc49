/- Texts of the law PstcurFinds, one behind the other. -/
import Derived.Test.YtalcanejhniepaaGreatPstcurFindsM1
/- The library's functions on slices, at points. -/
namespace Go.Proofs.YtalcanejhniepaaGreat
attribute [local irreducible] sat
set_option linter.unusedVariables false
set_option linter.unusedSimpArgs false
set_option maxRecDepth 100000

theorem Ctr.pre {P : Program} {f : FuncId} {args : Array Value} {L M : List HP} {post : Value → List HP → Prop} (hp : ∀ h, sat L h → sat M h) (h : Ctr P f args M post) : Ctr P f args L post :=
  fun g F w hw => h g F w (hw.mono fun _ s => s.cons_mono hp)
theorem Ctr.pick {P : Program} {f : FuncId} {args : Array Value} {L M : List HP} {X : HP} {post : Value → List HP → Prop} (hp : Pick X L M) (h : Ctr P f args (X :: M) post) : Ctr P f args L post :=
  h.pre fun _ s => s.perm hp.perm
/-- What a function leaves that makes a slice of its own. -/
def Made (T : TypeId) {α : Type} [E : Enc α] (l : List α) (L : List HP) (v : Value) (L' : List HP) : Prop := ∃ A c, v = .slice A l.length c ∧ (0 < l.length → ∃ b, A = some ⟨b, 0, none⟩) ∧ L' = own T E.sz A l.length c (flat l) :: L

/-- slices.Clone -/
theorem Clone_ctr (A : Option Addr) (n c : Nat) (l : List Pt) (L : List HP) (hl : Rd L A n l) (hn : n ≤ 1000000) :
    Ctr Tryz.prog 118 #[.slice A n c] L fun v L' => Made 29 l L v L' := by
  have h1 : l.length = n := hl.len (by decide)
  refine Ctr_of (fn := Tryz.f118) (n := 8) Tryz.func118 rfl rfl rfl ?_
  intro g F
  (repeat first | refine G_seq ?_ | refine G_skip ?_ | refine G_endblk ?_ | refine G_block ?_ | refine G_exit rfl ?_)
  refine G_region ?_
  refine GO_q rfl rfl (ev_assign rfl) ?_
  refine GO_nil ?_
  (repeat first | refine G_seq ?_ | refine G_skip ?_ | refine G_endblk ?_ | refine G_block ?_ | refine G_exit rfl ?_)
  refine G_region ?_
  refine GO_q rfl rfl (ev_move rfl) ?_
  refine GO_q rfl rfl (ev_eqlNilS rfl rfl) ?_
  refine GO_nil ?_
  (repeat first | refine G_seq ?_ | refine G_skip ?_ | refine G_endblk ?_ | refine G_block ?_ | refine G_exit rfl ?_)
  refine G_condB rfl (fun h2 => ?_) (fun h2 => ?_)
  · have e : A = none := by simpa using h2
    subst e
    have h3 : n = 0 := by
      rcases Nat.eq_zero_or_pos n with h | h
      · exact h
      · obtain ⟨b, o, e, _⟩ := hl.at_ h; cases e
    subst h3
    have : l = [] := List.eq_nil_of_length_eq_zero h1
    subst this
    (repeat first | refine G_seq ?_ | refine G_skip ?_ | refine G_endblk ?_ | refine G_block ?_ | refine G_exit rfl ?_)
    refine G_region ?_
    refine GO_q rfl rfl (ev_assign rfl) ?_
    refine GO_nil ?_
    (repeat first | refine G_seq ?_ | refine G_skip ?_ | refine G_endblk ?_ | refine G_block ?_ | refine G_exit rfl ?_)
    refine G_ret (L' := own 29 3 none 0 0 [] :: L) rfl (.tmp rfl .nil) ?_ ⟨none, 0, rfl, fun h => absurd h (Nat.lt_irrefl 0), rfl⟩
    exact fun h s => (own.nil_ 29 3 h s).swap
  · (repeat first | refine G_seq ?_ | refine G_skip ?_ | refine G_endblk ?_ | refine G_block ?_ | refine G_exit rfl ?_)
    refine G_region ?_
    refine GO_eff rfl rfl eff_buildSlice0 ?_; rintro _ _ ⟨b5, rfl, rfl⟩
    refine GO_q rfl rfl (ev_move rfl) ?_
    refine GO_eff rfl rfl (eff_append rfl rfl (by repeat' first | exact Pick.here | apply Pick.skip) (Rc.skip (Rc.skip hl)) ((flat_one _)) (by rfl) (by decide) (by first | omega | (simp; done) | (simp; omega)) (by first | omega | (simp; done) | (simp; omega))) ?_; rintro _ _ ⟨A7, c7, rfl, hc7, hm7, hn7, rfl⟩
    refine GO_q rfl rfl (ev_assign rfl) ?_
    refine GO_nil ?_
    rw [Nat.zero_add] at hc7 hn7
    (repeat first | refine G_seq ?_ | refine G_skip ?_ | refine G_endblk ?_ | refine G_block ?_ | refine G_exit rfl ?_)
    refine G_ret (L' := own 29 3 A7 l.length c7 (flat l) :: L) rfl (.tmp rfl .nil) ?_ ⟨A7, c7, by rw [h1]; simp [retv], by rw [h1]; exact hn7, rfl⟩
    rw [h1, Nat.zero_add, List.nil_append]
    refine en_pick (.skip (.here)) ?_
    refine en_pick (.here) ?_
    exact (by (repeat first | exact fun _ s => s | apply en_keep | apply en_drop | apply en_app) <;> fail)
/-- What a list reads as, one cell behind the other, that was put together of parts of others. -/
theorem put_a (F us V : List Value) (i n : Nat) (hF : F.length = n * 3) (hu : us.length = (n + 1 - i) * 3) (hV : V.length = 3) (hi : i ≤ n) :
    (((F.take (i * 3) ++ us).take (i * 3) ++ V ++ (F.take (i * 3) ++ us).drop ((i + 1) * 3)).take ((i + 1) * 3) ++ (F.drop (i * 3)).take ((n - i) * 3) ++ ((F.take (i * 3) ++ us).take (i * 3) ++ V ++ (F.take (i * 3) ++ us).drop ((i + 1) * 3)).drop ((i + 1 + (n - i)) * 3)) = F.take (i * 3) ++ V ++ F.drop (i * 3) := by
  have h1 : (F.take (i * 3)).length = i * 3 := by rw [List.length_take]; omega
  have e1 : (F.take (i * 3) ++ us).take (i * 3) = F.take (i * 3) := by rw [List.take_append_of_le_length (by omega), List.take_take, Nat.min_self]
  have h2 : (F.take (i * 3) ++ V).length = (i + 1) * 3 := by rw [List.length_append, h1, hV]; omega
  rw [e1]
  generalize hd : (F.take (i * 3) ++ us).drop ((i + 1) * 3) = D
  have h3 : D.length = (n - i) * 3 := by rw [← hd, List.length_drop, List.length_append, h1, hu]; omega
  have e2 : (F.take (i * 3) ++ V ++ D).take ((i + 1) * 3) = F.take (i * 3) ++ V := by rw [← h2]; exact List.take_left
  have e3 : (F.take (i * 3) ++ V ++ D).drop ((i + 1 + (n - i)) * 3) = [] := List.drop_of_length_le (by rw [List.length_append, h2, h3]; omega)
  have e4 : (F.drop (i * 3)).take ((n - i) * 3) = F.drop (i * 3) := List.take_of_length_le (by rw [List.length_drop]; omega)
  rw [e2, e3, e4, List.append_nil]
theorem put_b (F us V : List Value) (i n : Nat) (hF : F.length = n * 3) (hu : us.length = 3) (hV : V.length = 3) (hi : i ≤ n) :
    (((F ++ us).take ((i + 1) * 3) ++ ((F ++ us).drop (i * 3)).take ((n - i) * 3) ++ (F ++ us).drop ((i + 1 + (n - i)) * 3)).take (i * 3) ++ V ++ ((F ++ us).take ((i + 1) * 3) ++ ((F ++ us).drop (i * 3)).take ((n - i) * 3) ++ (F ++ us).drop ((i + 1 + (n - i)) * 3)).drop ((i + 1) * 3)) = F.take (i * 3) ++ V ++ F.drop (i * 3) := by
  have hl : (F ++ us).length = (n + 1) * 3 := by rw [List.length_append, hF, hu]; omega
  have e3 : (F ++ us).drop ((i + 1 + (n - i)) * 3) = [] := List.drop_of_length_le (by rw [hl]; omega)
  have e1 : ((F ++ us).take ((i + 1) * 3)).length = (i + 1) * 3 := by rw [List.length_take, hl]; omega
  have e2 : ((F ++ us).drop (i * 3)).take ((n - i) * 3) = F.drop (i * 3) := by
    rw [List.drop_append_of_le_length (by omega), List.take_append_of_le_length (by rw [List.length_drop]; omega), List.take_of_length_le (by rw [List.length_drop]; omega)]
  rw [e3, e2, List.append_nil, List.take_append_of_le_length (by rw [e1]; omega), List.take_take, Nat.min_eq_left (by omega), List.take_append_of_le_length (by omega)]
  have e4 : ((F ++ us).take ((i + 1) * 3) ++ F.drop (i * 3)).drop ((i + 1) * 3) = F.drop (i * 3) := by
    rw [List.drop_append_of_le_length (by omega), List.drop_of_length_le (by omega), List.nil_append]
  rw [e4]
/-- slices.Insert of one element -/
theorem Insert_ctr (A : Option Addr) (n c b1 i : Nat) (l : List Pt) (p : Pt) (L : List HP) (h1 : l.length = n) (hn : n ≤ 1000000) (hi : i ≤ n) :
    Ctr Tryz.prog 123 #[.slice A n c, .int .i64 (i : Nat), .slice (some ⟨b1, 0, none⟩) 1 1] (own 29 3 A n c (flat l) :: blk b1 29 [.int .i64 p.id, .int .i64 p.x, .int .i64 p.y] :: L) fun v L' => Made 29 (l.take i ++ [p] ++ l.drop i) L v L' := by
  have hlen : (l.take i ++ [p] ++ l.drop i).length = n + 1 := by simp; omega
  refine Ctr_of (fn := Tryz.f123) (n := 95) Tryz.func123 rfl rfl rfl ?_
  intro g F
  refine G_pure (fun h s => own.facts (s.tail)) ?_
  rintro ⟨f1, f2, f3, f4⟩
  rcases f4 with ⟨rfl, f5, f6⟩ | ⟨b, rfl⟩
  · subst f5 f6
    have hl : l = [] := List.eq_nil_of_length_eq_zero h1
    have hi0 : i = 0 := by omega
    subst hl hi0
    (repeat first | refine G_seq ?_ | refine G_skip ?_ | refine G_endblk ?_ | refine G_block ?_ | refine G_exit rfl ?_)
    refine G_region ?_
    refine GO_q rfl rfl (ev_assign rfl) ?_
    refine GO_nil ?_
    (repeat first | refine G_seq ?_ | refine G_skip ?_ | refine G_endblk ?_ | refine G_block ?_ | refine G_exit rfl ?_)
    refine G_region ?_
    refine GO_q rfl rfl (ev_move rfl) ?_
    refine GO_q rfl rfl (ev_move rfl) ?_
    refine GO_q rfl rfl (ev_slice rfl (.inr ⟨_, _, rfl, rfl⟩) (.inl ⟨rfl, rfl⟩) (Nat.le_refl _) (Nat.le_refl _)) ?_
    refine GO_nil ?_
    (repeat first | refine G_seq ?_ | refine G_skip ?_ | refine G_endblk ?_ | refine G_block ?_ | refine G_exit rfl ?_)
    refine G_region ?_
    refine GO_q rfl rfl (ev_move rfl) ?_
    refine GO_q rfl rfl (ev_len rfl) ?_
    refine GO_q rfl rfl (ev_assign rfl) ?_
    refine GO_nil ?_
    (repeat first | refine G_seq ?_ | refine G_skip ?_ | refine G_endblk ?_ | refine G_block ?_ | refine G_exit rfl ?_)
    refine G_region ?_
    refine GO_q rfl rfl (ev_move rfl) ?_
    refine GO_q rfl rfl (ev_eql rfl rfl) ?_
    refine GO_nil ?_
    (repeat first | refine G_seq ?_ | refine G_skip ?_ | refine G_endblk ?_ | refine G_block ?_ | refine G_exit rfl ?_)
    refine G_cond_f rfl rfl ?_
    (repeat first | refine G_seq ?_ | refine G_skip ?_ | refine G_endblk ?_ | refine G_block ?_ | refine G_exit rfl ?_)
    refine G_region ?_
    refine GO_q rfl rfl (ev_move rfl) ?_
    refine GO_q rfl rfl (ev_len rfl) ?_
    refine GO_q rfl rfl (ev_assign rfl) ?_
    refine GO_nil ?_
    (repeat first | refine G_seq ?_ | refine G_skip ?_ | refine G_endblk ?_ | refine G_block ?_ | refine G_exit rfl ?_)
    refine G_region ?_
    refine GO_q rfl rfl (ev_move rfl) ?_
    refine GO_q rfl rfl (ev_move rfl) ?_
    refine GO_q rfl rfl (ev_eql rfl rfl) ?_
    refine GO_nil ?_
    (repeat first | refine G_seq ?_ | refine G_skip ?_ | refine G_endblk ?_ | refine G_block ?_ | refine G_exit rfl ?_)
    refine G_cond_t rfl rfl ?_
    (repeat first | refine G_seq ?_ | refine G_skip ?_ | refine G_endblk ?_ | refine G_block ?_ | refine G_exit rfl ?_)
    refine G_region ?_
    refine GO_q rfl rfl (ev_move rfl) ?_
    refine GO_q rfl rfl (ev_move rfl) ?_
    refine GO_eff rfl rfl (eff_append rfl rfl (by repeat' first | exact Pick.here | apply Pick.skip) (by repeat' first | exact Rc.blk rfl | assumption | apply Rc.skip) (one_all rfl) (by rfl) (by decide) (by first | omega | (simp; done) | (simp; omega)) (by first | omega | (simp; done) | (simp; omega))) ?_; rintro _ _ ⟨A25, c25, rfl, hc25, hm25, hn25, rfl⟩
    refine GO_q rfl rfl (ev_assign rfl) ?_
    refine GO_nil ?_
    (repeat first | refine G_seq ?_ | refine G_skip ?_ | refine G_endblk ?_ | refine G_block ?_ | refine G_exit rfl ?_)
    refine G_ret (L' := own 29 3 A25 1 c25 (flat [p]) :: L) rfl (.tmp rfl .nil) ?_ ⟨A25, c25, rfl, fun _ => hn25 (by omega), rfl⟩
    exact (by (repeat first | exact en_refl | (apply en_blk; focus ((repeat' first | exact Pick.here | apply Pick.skip | apply Pick.app); done); focus rfl) | (apply en_own; focus ((repeat' first | exact Pick.here | apply Pick.skip | apply Pick.app); done); focus rfl) | (apply en_pick; focus ((repeat' first | exact Pick.here | apply Pick.skip | apply Pick.app); done)) | apply en_drop | apply en_app) <;> fail)
  · have hfl : flat (l.take i ++ [p] ++ l.drop i) = (flat l).take (i * 3) ++ [.int .i64 p.id, .int .i64 p.x, .int .i64 p.y] ++ (flat l).drop (i * 3) := by
      have a1 := flat_take l i
      have a2 := flat_drop l i
      rw [flat_append, flat_append, a1, a2]
      rfl
    have hF : (flat l).length = n * 3 := by rw [flat_length, h1]; rfl
    have hbig : c ≤ maxLen := f3
    have hbig2 : c ≤ 9223372036854775807 := by unfold maxLen at f3; omega
    (repeat first | refine G_seq ?_ | refine G_skip ?_ | refine G_endblk ?_ | refine G_block ?_ | refine G_exit rfl ?_)
    refine G_region ?_
    refine GO_q rfl rfl (ev_assign rfl) ?_
    refine GO_nil ?_
    (repeat first | refine G_seq ?_ | refine G_skip ?_ | refine G_endblk ?_ | refine G_block ?_ | refine G_exit rfl ?_)
    refine G_region ?_
    refine GO_q rfl rfl (ev_move rfl) ?_
    refine GO_q rfl rfl (ev_move rfl) ?_
    refine GO_q rfl rfl (ev_sliceL rfl rfl (by first | omega | (simp; done) | (simp; omega)) (by first | omega | (simp; done) | (simp; omega))) ?_
    refine GO_nil ?_
    (repeat first | refine G_seq ?_ | refine G_skip ?_ | refine G_endblk ?_ | refine G_block ?_ | refine G_exit rfl ?_)
    refine G_region ?_
    refine GO_q rfl rfl (ev_move rfl) ?_
    refine GO_q rfl rfl (ev_len rfl) ?_
    refine GO_q rfl rfl (ev_assign rfl) ?_
    refine GO_nil ?_
    (repeat first | refine G_seq ?_ | refine G_skip ?_ | refine G_endblk ?_ | refine G_block ?_ | refine G_exit rfl ?_)
    refine G_region ?_
    refine GO_q rfl rfl (ev_move rfl) ?_
    refine GO_q rfl rfl (ev_eql rfl rfl) ?_
    refine GO_nil ?_
    (repeat first | refine G_seq ?_ | refine G_skip ?_ | refine G_endblk ?_ | refine G_block ?_ | refine G_exit rfl ?_)
    refine G_cond_f rfl rfl ?_
    (repeat first | refine G_seq ?_ | refine G_skip ?_ | refine G_endblk ?_ | refine G_block ?_ | refine G_exit rfl ?_)
    refine G_region ?_
    refine GO_q rfl rfl (ev_move rfl) ?_
    refine GO_q rfl rfl (ev_len rfl) ?_
    refine GO_q rfl rfl (ev_assign rfl) ?_
    refine GO_nil ?_
    (repeat first | refine G_seq ?_ | refine G_skip ?_ | refine G_endblk ?_ | refine G_block ?_ | refine G_exit rfl ?_)
    refine G_region ?_
    refine GO_q rfl rfl (ev_move rfl) ?_
    refine GO_q rfl rfl (ev_move rfl) ?_
    refine GO_q rfl rfl (ev_eql rfl rfl) ?_
    refine GO_nil ?_
    (repeat first | refine G_seq ?_ | refine G_skip ?_ | refine G_endblk ?_ | refine G_block ?_ | refine G_exit rfl ?_)
    refine G_cond rfl (fun c1 => ?_) (fun c1 => ?_)
    · have e : i = n := by omega
      subst e
      (repeat first | refine G_seq ?_ | refine G_skip ?_ | refine G_endblk ?_ | refine G_block ?_ | refine G_exit rfl ?_)
      refine G_region ?_
      refine GO_q rfl rfl (ev_move rfl) ?_
      refine GO_q rfl rfl (ev_move rfl) ?_
      refine GO_eff rfl rfl (eff_append rfl rfl (by repeat' first | exact Pick.here | apply Pick.skip) (by repeat' first | exact Rc.blk rfl | assumption | apply Rc.skip) (one_all rfl) (by rfl) (by decide) (by first | omega | (simp; done) | (simp; omega)) (by first | omega | (simp; done) | (simp; omega))) ?_; rintro _ _ ⟨A25, c25, rfl, hc25, hm25, hn25, rfl⟩
      refine GO_q rfl rfl (ev_assign rfl) ?_
      refine GO_nil ?_
      (repeat first | refine G_seq ?_ | refine G_skip ?_ | refine G_endblk ?_ | refine G_block ?_ | refine G_exit rfl ?_)
      refine G_ret (L' := own 29 3 A25 (l.take i ++ [p] ++ l.drop i).length c25 (flat (l.take i ++ [p] ++ l.drop i)) :: L) rfl (.tmp rfl .nil) ?_ ⟨A25, c25, by rw [hlen]; rfl, fun _ => hn25 (by omega), rfl⟩
      rw [hlen, hfl, List.take_of_length_le (by omega), List.drop_of_length_le (by omega), List.append_nil]
      exact (by (repeat first | exact en_refl | (apply en_blk; focus ((repeat' first | exact Pick.here | apply Pick.skip | apply Pick.app); done); focus rfl) | (apply en_own; focus ((repeat' first | exact Pick.here | apply Pick.skip | apply Pick.app); done); focus rfl) | (apply en_pick; focus ((repeat' first | exact Pick.here | apply Pick.skip | apply Pick.app); done)) | apply en_drop | apply en_app) <;> fail)
    · (repeat first | refine G_seq ?_ | refine G_skip ?_ | refine G_endblk ?_ | refine G_block ?_ | refine G_exit rfl ?_)
      refine G_region ?_
      refine GO_q rfl rfl (ev_move rfl) ?_
      refine GO_q rfl rfl (ev_move rfl) ?_
      (first | refine GO_q rfl rfl (ev_addN rfl rfl (by first | omega | (simp; done) | (simp; omega))) ?_ | refine GO_q rfl rfl (ev_add rfl rfl (by first | omega | (simp; done) | (simp; omega))) ?_)
      refine GO_q rfl rfl (ev_move rfl) ?_
      refine GO_q rfl rfl (ev_cap rfl) ?_
      refine GO_q rfl rfl (ev_gtr rfl rfl) ?_
      refine GO_nil ?_
      (repeat first | refine G_seq ?_ | refine G_skip ?_ | refine G_endblk ?_ | refine G_block ?_ | refine G_exit rfl ?_)
      refine G_cond rfl (fun c2 => ?_) (fun c2 => ?_)
      · have hii : i + (n + 1 - i) = n + 1 := by omega
        (repeat first | refine G_seq ?_ | refine G_skip ?_ | refine G_endblk ?_ | refine G_block ?_ | refine G_exit rfl ?_)
        refine G_region ?_
        refine GO_q rfl rfl (ev_move rfl) ?_
        refine GO_q rfl rfl (ev_move rfl) ?_
        refine GO_q rfl rfl (ev_sliceH rfl rfl (by first | omega | (simp; done) | (simp; omega))) ?_
        refine GO_q rfl rfl (ev_move rfl) ?_
        refine GO_q rfl rfl (ev_move rfl) ?_
        (first | refine GO_q rfl rfl (ev_addN rfl rfl (by first | omega | (simp; done) | (simp; omega))) ?_ | refine GO_q rfl rfl (ev_add rfl rfl (by first | omega | (simp; done) | (simp; omega))) ?_)
        refine GO_q rfl rfl (ev_move rfl) ?_
        (first | refine GO_q rfl rfl (ev_subN rfl rfl (by first | omega | (simp; done) | (simp; omega))) ?_ | refine GO_q rfl rfl (ev_sub rfl rfl (by first | omega | (simp; done) | (simp; omega))) ?_)
        refine GO_eff rfl rfl (eff_appendZ rfl (by omega) rfl rfl (by repeat' first | exact Pick.here | apply Pick.skip | apply Pick.app) hi (by omega) (by omega) (by omega) (by omega)) ?_; rintro _ _ ⟨b40, c40, us, rfl, hu, hc40, hm40, rfl⟩
        refine GO_q rfl rfl (ev_assign rfl) ?_
        refine GO_nil ?_
        have hm1 : min 1 (i + (n + 1 - i) - i) = 1 := by omega
        have hm2 : min (n - i) (i + (n + 1 - i) - (i + 1)) = n - i := by omega
        have hsrc : ∀ L', Rc (own 29 3 (some ⟨b, 0, none⟩) n c (flat l) :: L') 3 (some ⟨b, (if c = i then 0 else 0 + i * 3), none⟩) (n - i) (flat (l.drop i)) := fun L' => Rd.drop (α := Pt) (Rc.own hF (fun _ => ⟨b, rfl⟩)) hi f2
        (repeat first | refine G_seq ?_ | refine G_skip ?_ | refine G_endblk ?_ | refine G_block ?_ | refine G_exit rfl ?_)
        refine G_region ?_
        refine GO_q rfl rfl (ev_move rfl) ?_
        refine GO_q rfl rfl (ev_move rfl) ?_
        refine GO_q rfl rfl (ev_sliceL rfl rfl (by first | omega | (simp; done) | (simp; omega)) (by first | omega | (simp; done) | (simp; omega))) ?_
        refine GO_q rfl rfl (ev_move rfl) ?_
        refine GO_eff rfl rfl (eff_copy (k := i) rfl rfl (by repeat' first | exact Pick.here | apply Pick.skip | apply Pick.app) (by repeat' first | exact Rc.blk rfl | assumption | apply Rc.skip | apply Rc.app) (one_take (one_all rfl) _) (fun _ => by rw [if_neg (by omega)]; omega) (by omega)) ?_; rintro _ _ ⟨rfl, rfl⟩
        refine GO_nil ?_
        rw [hm1]
        (repeat first | refine G_seq ?_ | refine G_skip ?_ | refine G_endblk ?_ | refine G_block ?_ | refine G_exit rfl ?_)
        refine G_draw (.q 0 (.q 1 (.q 2 (.q 3 (.q 4 (.q 5 (.q 6 (.q 7 (.e 8 .nil))))))))) (by kernel_rfl) (by kernel_rfl) ?_
        refine RS_m retB_noPanic rfl rfl rfl rfl (ev_move rfl) ?_
        refine RS_m retB_noPanic rfl rfl rfl rfl (ev_move rfl) ?_
        refine RS_m retB_noPanic rfl rfl rfl rfl (ev_move rfl) ?_
        (first | refine RS_m retB_noPanic rfl rfl rfl rfl (ev_addN rfl rfl (by first | omega | (simp; done) | (simp; omega))) ?_ | refine RS_m retB_noPanic rfl rfl rfl rfl (ev_add rfl rfl (by first | omega | (simp; done) | (simp; omega))) ?_)
        refine RS_q retB_noPanic rfl rfl rfl rfl (ev_sliceL rfl rfl (by first | omega | (simp; done) | (simp; omega)) (by first | omega | (simp; done) | (simp; omega))) ?_
        refine RS_m retB_noPanic rfl rfl rfl rfl (ev_move rfl) ?_
        refine RS_m retB_noPanic rfl rfl rfl rfl (ev_move rfl) ?_
        refine RS_q retB_noPanic rfl rfl rfl rfl (ev_sliceL rfl rfl (by first | omega | (simp; done) | (simp; omega)) (by first | omega | (simp; done) | (simp; omega))) ?_
        refine RS_e (RE_last (by kernel_rfl) rfl rfl rfl (eff_copy (k := i + 1) rfl rfl (by repeat' first | exact Pick.here | apply Pick.skip | apply Pick.app) (by repeat' first | exact hsrc _ | apply Rc.skip) (one_take (flat_one _) _) (fun _ => by rw [if_neg (by omega)]; omega) (by omega)) ?_); rintro _ _ ⟨rfl, rfl⟩
        rw [hm2]
        (repeat first | refine G_seq ?_ | refine G_skip ?_ | refine G_endblk ?_ | refine G_block ?_ | refine G_exit rfl ?_)
        refine G_region ?_
        refine GO_q rfl rfl (ev_move rfl) ?_
        refine GO_q rfl rfl (ev_assign rfl) ?_
        refine GO_nil ?_
        (repeat first | refine G_seq ?_ | refine G_skip ?_ | refine G_endblk ?_ | refine G_block ?_ | refine G_exit rfl ?_)
        refine G_ret (L' := own 29 3 (some ⟨b40, 0, none⟩) (l.take i ++ [p] ++ l.drop i).length c40 (flat (l.take i ++ [p] ++ l.drop i)) :: L) rfl (.tmp rfl .nil) ?_ ⟨some ⟨b40, 0, none⟩, c40, by rw [hlen, hii]; rfl, fun _ => ⟨b40, rfl⟩, rfl⟩
        rw [hlen, hfl, hii, flat_drop]
        have key := put_a (flat l) us [.int .i64 p.id, .int .i64 p.x, .int .i64 p.y] i n hF hu rfl hi
        apply en_pick
        focus ((repeat' first | exact Pick.here | apply Pick.skip | apply Pick.app); done)
        refine en_own .here key ?_
        exact (by (repeat first | exact en_refl | (apply en_blk; focus ((repeat' first | exact Pick.here | apply Pick.skip | apply Pick.app); done); focus rfl) | (apply en_own; focus ((repeat' first | exact Pick.here | apply Pick.skip | apply Pick.app); done); focus rfl) | (apply en_pick; focus ((repeat' first | exact Pick.here | apply Pick.skip | apply Pick.app); done)) | apply en_drop | apply en_app) <;> fail)
      · have hm1 : min 1 (n + 1 - i) = 1 := by omega
        have hm2 : min (n + 1 - i) (n + 1 - (i + 1)) = n - i := by omega
        (repeat first | refine G_seq ?_ | refine G_skip ?_ | refine G_endblk ?_ | refine G_block ?_ | refine G_exit rfl ?_)
        refine G_region ?_
        refine GO_q rfl rfl (ev_move rfl) ?_
        refine GO_q rfl rfl (ev_move rfl) ?_
        refine GO_q rfl rfl (ev_move rfl) ?_
        (first | refine GO_q rfl rfl (ev_addN rfl rfl (by first | omega | (simp; done) | (simp; omega))) ?_ | refine GO_q rfl rfl (ev_add rfl rfl (by first | omega | (simp; done) | (simp; omega))) ?_)
        refine GO_q rfl rfl (ev_sliceH rfl rfl (by first | omega | (simp; done) | (simp; omega))) ?_
        refine GO_q rfl rfl (ev_assign rfl) ?_
        refine GO_nil ?_
        (repeat first | refine G_seq ?_ | refine G_skip ?_ | refine G_endblk ?_ | refine G_block ?_ | refine G_exit rfl ?_)
        refine G_heap (L' := own 29 3 (some ⟨b, 0, none⟩) n c (flat l) :: F :: blk b1 29 [.int .i64 p.id, .int .i64 p.x, .int .i64 p.y] :: L) (en_pick (.skip .here) en_refl) ?_
        refine G_open (ι := List Value) (F := fun us => us.length = 3) (N := fun us => [own 29 3 (some ⟨b, 0, none⟩) (n + 1) c (flat l ++ us)]) (fun h o => ?_) ?_
        · obtain ⟨zs, hz, o2⟩ := o.more (k := n + 1) (by omega) (by omega)
          exact ⟨zs, by omega, sat.one o2⟩
        intro us hu
        have hsrc : ∀ L', Rc (own 29 3 (some ⟨b, 0, none⟩) (n + 1) c (flat l ++ us) :: L') 3 (some ⟨b, (if c = i then 0 else 0 + i * 3), none⟩) (n + 1 - i) ((flat l ++ us).drop (i * 3)) := fun L' => Rc.drop (Rc.own (by rw [List.length_append, hF, hu]; omega) (fun _ => ⟨b, rfl⟩)) (by omega) (by omega)
        have hone : ∀ u ∈ ((flat l ++ us).drop (i * 3)).take (min (n + 1 - i) (n + 1 - (i + 1)) * 3), u.oneCell' = true := by
          rw [hm2, List.drop_append_of_le_length (by omega), List.take_append_of_le_length (by rw [List.length_drop]; omega)]
          exact fun u h => flat_one l u (List.mem_of_mem_drop (List.mem_of_mem_take h))
        (repeat first | refine G_seq ?_ | refine G_skip ?_ | refine G_endblk ?_ | refine G_block ?_ | refine G_exit rfl ?_)
        refine G_region ?_
        refine GO_q rfl rfl (ev_move rfl) ?_
        refine GO_q rfl rfl (ev_move rfl) ?_
        refine GO_q rfl rfl (ev_move rfl) ?_
        refine GO_q rfl rfl (ev_move rfl) ?_
        (first | refine GO_q rfl rfl (ev_addN rfl rfl (by first | omega | (simp; done) | (simp; omega))) ?_ | refine GO_q rfl rfl (ev_add rfl rfl (by first | omega | (simp; done) | (simp; omega))) ?_)
        refine GO_q rfl rfl (ev_sliceL rfl rfl (by first | omega | (simp; done) | (simp; omega)) (by first | omega | (simp; done) | (simp; omega))) ?_
        refine GO_q rfl rfl (ev_overlaps rfl rfl (by repeat' first | exact Pick.here | apply Pick.skip | apply Pick.app) (by repeat' first | exact Pick.here | apply Pick.skip | apply Pick.app) (by omega) (by omega)) ?_
        (first | refine GO_q rfl rfl (ev_notP rfl) ?_ | refine GO_q rfl rfl (ev_not rfl) ?_)
        refine GO_nil ?_
        (repeat first | refine G_seq ?_ | refine G_skip ?_ | refine G_endblk ?_ | refine G_block ?_ | refine G_exit rfl ?_)
        refine G_cond_t rfl rfl ?_
        (repeat first | refine G_seq ?_ | refine G_skip ?_ | refine G_endblk ?_ | refine G_block ?_ | refine G_exit rfl ?_)
        refine G_draw (.q 0 (.q 1 (.q 2 (.q 3 (.q 4 (.q 5 (.q 6 (.q 7 (.e 8 .nil))))))))) (by kernel_rfl) (by kernel_rfl) ?_
        refine RS_m retB_noPanic rfl rfl rfl rfl (ev_move rfl) ?_
        refine RS_m retB_noPanic rfl rfl rfl rfl (ev_move rfl) ?_
        refine RS_m retB_noPanic rfl rfl rfl rfl (ev_move rfl) ?_
        (first | refine RS_m retB_noPanic rfl rfl rfl rfl (ev_addN rfl rfl (by first | omega | (simp; done) | (simp; omega))) ?_ | refine RS_m retB_noPanic rfl rfl rfl rfl (ev_add rfl rfl (by first | omega | (simp; done) | (simp; omega))) ?_)
        refine RS_q retB_noPanic rfl rfl rfl rfl (ev_sliceL rfl rfl (by first | omega | (simp; done) | (simp; omega)) (by first | omega | (simp; done) | (simp; omega))) ?_
        refine RS_m retB_noPanic rfl rfl rfl rfl (ev_move rfl) ?_
        refine RS_m retB_noPanic rfl rfl rfl rfl (ev_move rfl) ?_
        refine RS_q retB_noPanic rfl rfl rfl rfl (ev_sliceL rfl rfl (by first | omega | (simp; done) | (simp; omega)) (by first | omega | (simp; done) | (simp; omega))) ?_
        refine RS_e (RE_last (by kernel_rfl) rfl rfl rfl (eff_copy (k := i + 1) rfl rfl (by repeat' first | exact Pick.here | apply Pick.skip | apply Pick.app) (by repeat' first | exact hsrc _ | apply Rc.skip) hone (fun _ => by rw [if_neg (by omega)]; omega) (by omega)) ?_); rintro _ _ ⟨rfl, rfl⟩
        rw [hm2]
        (repeat first | refine G_seq ?_ | refine G_skip ?_ | refine G_endblk ?_ | refine G_block ?_ | refine G_exit rfl ?_)
        refine G_region ?_
        refine GO_q rfl rfl (ev_move rfl) ?_
        refine GO_q rfl rfl (ev_move rfl) ?_
        refine GO_q rfl rfl (ev_sliceL rfl rfl (by first | omega | (simp; done) | (simp; omega)) (by first | omega | (simp; done) | (simp; omega))) ?_
        refine GO_q rfl rfl (ev_move rfl) ?_
        refine GO_eff rfl rfl (eff_copy (k := i) rfl rfl (by repeat' first | exact Pick.here | apply Pick.skip | apply Pick.app) (by repeat' first | exact Rc.blk rfl | assumption | apply Rc.skip | apply Rc.app) (one_take (one_all rfl) _) (fun _ => by rw [if_neg (by omega)]; omega) (by omega)) ?_; rintro _ _ ⟨rfl, rfl⟩
        refine GO_nil ?_
        rw [hm1]
        (repeat first | refine G_seq ?_ | refine G_skip ?_ | refine G_endblk ?_ | refine G_block ?_ | refine G_exit rfl ?_)
        refine G_region ?_
        refine GO_q rfl rfl (ev_move rfl) ?_
        refine GO_q rfl rfl (ev_assign rfl) ?_
        refine GO_nil ?_
        (repeat first | refine G_seq ?_ | refine G_skip ?_ | refine G_endblk ?_ | refine G_block ?_ | refine G_exit rfl ?_)
        refine G_ret (L' := own 29 3 (some ⟨b, 0, none⟩) (l.take i ++ [p] ++ l.drop i).length c (flat (l.take i ++ [p] ++ l.drop i)) :: L) rfl (.tmp rfl .nil) ?_ ⟨some ⟨b, 0, none⟩, c, by rw [hlen]; rfl, fun _ => ⟨b, rfl⟩, rfl⟩
        rw [hlen, hfl]
        have key := put_b (flat l) us [.int .i64 p.id, .int .i64 p.x, .int .i64 p.y] i n hF hu rfl hi
        apply en_pick
        focus ((repeat' first | exact Pick.here | apply Pick.skip | apply Pick.app); done)
        refine en_own .here key ?_
        exact (by (repeat first | exact en_refl | (apply en_blk; focus ((repeat' first | exact Pick.here | apply Pick.skip | apply Pick.app); done); focus rfl) | (apply en_own; focus ((repeat' first | exact Pick.here | apply Pick.skip | apply Pick.app); done); focus rfl) | (apply en_pick; focus ((repeat' first | exact Pick.here | apply Pick.skip | apply Pick.app); done)) | apply en_drop | apply en_app) <;> fail)
/-- slices.Delete of one element -/
theorem Delete_ctr (b n c i : Nat) (l : List Pt) (L : List HP) (h1 : l.length = n) (hn : n ≤ 1000000) (hi : i < n) :
    Ctr Tryz.prog 117 #[.slice (some ⟨b, 0, none⟩) n c, .int .i64 (i : Nat), .int .i64 (i + 1 : Nat)] (own 29 3 (some ⟨b, 0, none⟩) n c (flat l) :: L) fun v L' => Made 29 (l.take i ++ l.drop (i + 1)) L v L' := by
  have hlen : (l.take i ++ l.drop (i + 1)).length = i + (n - (i + 1)) := by simp; omega
  have hfl : flat (l.take i ++ l.drop (i + 1)) = (flat l).take (i * 3) ++ flat (l.drop (i + 1)) := by
    have a1 := flat_take l i
    rw [flat_append, a1]
    rfl
  have hF : (flat l).length = n * 3 := by rw [flat_length, h1]; rfl
  refine Ctr_of (fn := Tryz.f117) (n := 33) Tryz.func117 rfl rfl rfl ?_
  intro g F
  refine G_pure (fun h s => own.facts (s.tail)) ?_
  rintro ⟨f1, f2, f3, f4⟩
  have hbig2 : c ≤ 9223372036854775807 := by unfold maxLen at f3; omega
  have hsrc : ∀ L', Rc (own 29 3 (some ⟨b, 0, none⟩) n c (flat l) :: L') 3 (some ⟨b, (if c = i + 1 then 0 else 0 + (i + 1) * 3), none⟩) (n - (i + 1)) (flat (l.drop (i + 1))) := fun L' => Rd.drop (α := Pt) (Rc.own hF (fun _ => ⟨b, rfl⟩)) (by omega) f2
  (repeat first | refine G_seq ?_ | refine G_skip ?_ | refine G_endblk ?_ | refine G_block ?_ | refine G_exit rfl ?_)
  refine G_region ?_
  refine GO_q rfl rfl (ev_assign rfl) ?_
  refine GO_nil ?_
  (repeat first | refine G_seq ?_ | refine G_skip ?_ | refine G_endblk ?_ | refine G_block ?_ | refine G_exit rfl ?_)
  refine G_region ?_
  refine GO_q rfl rfl (ev_move rfl) ?_
  refine GO_q rfl rfl (ev_move rfl) ?_
  refine GO_q rfl rfl (ev_move rfl) ?_
  refine GO_q rfl rfl (ev_move rfl) ?_
  refine GO_q rfl rfl (ev_len rfl) ?_
  refine GO_q rfl rfl (ev_slice3 rfl rfl rfl rfl (by first | omega | (simp; done) | (simp; omega)) (by first | omega | (simp; done) | (simp; omega)) (by first | omega | (simp; done) | (simp; omega))) ?_
  refine GO_nil ?_
  (repeat first | refine G_seq ?_ | refine G_skip ?_ | refine G_endblk ?_ | refine G_block ?_ | refine G_exit rfl ?_)
  refine G_region ?_
  refine GO_q rfl rfl (ev_move rfl) ?_
  refine GO_q rfl rfl (ev_move rfl) ?_
  refine GO_q rfl rfl (ev_eql rfl rfl) ?_
  refine GO_nil ?_
  (repeat first | refine G_seq ?_ | refine G_skip ?_ | refine G_endblk ?_ | refine G_block ?_ | refine G_exit rfl ?_)
  refine G_cond_f rfl (decide_eq_false (by omega)) ?_
  (repeat first | refine G_seq ?_ | refine G_skip ?_ | refine G_endblk ?_ | refine G_block ?_ | refine G_exit rfl ?_)
  refine G_region ?_
  refine GO_q rfl rfl (ev_move rfl) ?_
  refine GO_q rfl rfl (ev_len rfl) ?_
  refine GO_q rfl rfl (ev_assign rfl) ?_
  refine GO_nil ?_
  (repeat first | refine G_seq ?_ | refine G_skip ?_ | refine G_endblk ?_ | refine G_block ?_ | refine G_exit rfl ?_)
  refine G_drawE 1 (.q 0 (.q 1 (.q 2 (.q 3 (.q 4 (.q 5 (.e 6 (.q 7 .nil)))))))) (by kernel_rfl) (by kernel_rfl) ?_
  refine RS_m retB_noPanic rfl rfl rfl rfl (ev_move rfl) ?_
  refine RS_m retB_noPanic rfl rfl rfl rfl (ev_move rfl) ?_
  refine RS_q retB_noPanic rfl rfl rfl rfl (ev_sliceH rfl rfl (by first | omega | (simp; done) | (simp; omega))) ?_
  refine RS_m retB_noPanic rfl rfl rfl rfl (ev_move rfl) ?_
  refine RS_m retB_noPanic rfl rfl rfl rfl (ev_move rfl) ?_
  refine RS_q retB_noPanic rfl rfl rfl rfl (ev_sliceL rfl rfl (by first | omega | (simp; done) | (simp; omega)) (by first | omega | (simp; done) | (simp; omega))) ?_
  refine RS_e (RE_cmp (by kernel_rfl) rfl rfl rfl (eff_appendR rfl rfl (by repeat' first | exact Pick.here | apply Pick.skip | apply Pick.app) (by repeat' first | exact hsrc _ | apply Rc.skip) (flat_one _) (by omega) (by omega)) ?_); rintro _ _ ⟨rfl, rfl⟩
  refine RS_m retB_noPanic rfl rfl rfl rfl (ev_assign rfl) ?_
  refine RS_nil ?_
  (repeat first | refine G_seq ?_ | refine G_skip ?_ | refine G_endblk ?_ | refine G_block ?_ | refine G_exit rfl ?_)
  refine G_region ?_
  refine GO_q rfl rfl (ev_move rfl) ?_
  refine GO_q rfl rfl (ev_move rfl) ?_
  refine GO_q rfl rfl (ev_len rfl) ?_
  refine GO_q rfl rfl (ev_move rfl) ?_
  refine GO_q rfl rfl (ev_sliceLH rfl rfl rfl (by first | omega | (simp; done) | (simp; omega)) (by first | omega | (simp; done) | (simp; omega))) ?_
  refine GO_eff rfl rfl (eff_clear (k := i + (n - (i + 1))) rfl rfl rfl (by repeat' first | exact Pick.here | apply Pick.skip | apply Pick.app) (fun _ => by rw [if_neg (by omega)]; omega) (by omega) (by omega)) ?_; rintro _ _ ⟨rfl, rfl⟩
  refine GO_nil ?_
  (repeat first | refine G_seq ?_ | refine G_skip ?_ | refine G_endblk ?_ | refine G_block ?_ | refine G_exit rfl ?_)
  refine G_region ?_
  refine GO_q rfl rfl (ev_move rfl) ?_
  refine GO_q rfl rfl (ev_assign rfl) ?_
  refine GO_nil ?_
  (repeat first | refine G_seq ?_ | refine G_skip ?_ | refine G_endblk ?_ | refine G_block ?_ | refine G_exit rfl ?_)
  refine G_ret (L' := own 29 3 (some ⟨b, 0, none⟩) (l.take i ++ l.drop (i + 1)).length c (flat (l.take i ++ l.drop (i + 1))) :: L) rfl (.tmp rfl .nil) ?_ ⟨some ⟨b, 0, none⟩, c, by rw [hlen]; rfl, fun _ => ⟨b, rfl⟩, rfl⟩
  rw [hlen, hfl]
  exact (by (repeat first | exact en_refl | (apply en_blk; focus ((repeat' first | exact Pick.here | apply Pick.skip | apply Pick.app); done); focus rfl) | (apply en_own; focus ((repeat' first | exact Pick.here | apply Pick.skip | apply Pick.app); done); focus rfl) | (apply en_pick; focus ((repeat' first | exact Pick.here | apply Pick.skip | apply Pick.app); done)) | apply en_drop | apply en_app) <;> fail)
/-- slices.Grow of nothing -/
theorem Grow_ctr (k : Nat) (L : List HP) (hk : k ≤ 1000000) :
    Ctr Tryz.prog 125 #[.slice none 0 0, .int .i64 (k : Nat)] L fun v L' => ∃ A c, v = .slice A 0 c ∧ L' = own 29 3 A 0 c [] :: L := by
  refine Ctr_of (fn := Tryz.f125) (n := 27) Tryz.func125 rfl rfl rfl ?_
  intro g F
  (repeat first | refine G_seq ?_ | refine G_skip ?_ | refine G_endblk ?_ | refine G_block ?_ | refine G_exit rfl ?_)
  refine G_region ?_
  refine GO_q rfl rfl (ev_assign rfl) ?_
  refine GO_nil ?_
  (repeat first | refine G_seq ?_ | refine G_skip ?_ | refine G_endblk ?_ | refine G_block ?_ | refine G_exit rfl ?_)
  refine G_region ?_
  refine GO_q rfl rfl (ev_move rfl) ?_
  (first | refine GO_q rfl rfl (ev_lssN (q := 0) rfl rfl) ?_ | refine GO_q rfl rfl (ev_lss rfl rfl) ?_)
  refine GO_nil ?_
  (repeat first | refine G_seq ?_ | refine G_skip ?_ | refine G_endblk ?_ | refine G_block ?_ | refine G_exit rfl ?_)
  refine G_cond_f rfl rfl ?_
  (repeat first | refine G_seq ?_ | refine G_skip ?_ | refine G_endblk ?_ | refine G_block ?_ | refine G_exit rfl ?_)
  refine G_region ?_
  refine GO_q rfl rfl (ev_move rfl) ?_
  refine GO_q rfl rfl (ev_move rfl) ?_
  refine GO_q rfl rfl (ev_cap rfl) ?_
  refine GO_q rfl rfl (ev_move rfl) ?_
  refine GO_q rfl rfl (ev_len rfl) ?_
  (first | refine GO_q rfl rfl (ev_subN rfl rfl (by first | omega | (simp; done) | (simp; omega))) ?_ | refine GO_q rfl rfl (ev_sub rfl rfl (by first | omega | (simp; done) | (simp; omega))) ?_)
  (first | refine GO_q rfl rfl (ev_subN rfl rfl (by first | omega | (simp; done) | (simp; omega))) ?_ | refine GO_q rfl rfl (ev_sub rfl rfl (by first | omega | (simp; done) | (simp; omega))) ?_)
  refine GO_q rfl rfl (ev_assign rfl) ?_
  refine GO_nil ?_
  (repeat first | refine G_seq ?_ | refine G_skip ?_ | refine G_endblk ?_ | refine G_block ?_ | refine G_exit rfl ?_)
  refine G_region ?_
  refine GO_q rfl rfl (ev_move rfl) ?_
  refine GO_q rfl rfl (ev_gtr rfl rfl) ?_
  refine GO_nil ?_
  by_cases h0 : k = 0
  · subst h0
    (repeat first | refine G_seq ?_ | refine G_skip ?_ | refine G_endblk ?_ | refine G_block ?_ | refine G_exit rfl ?_)
    refine G_cond_f rfl rfl ?_
    (repeat first | refine G_seq ?_ | refine G_skip ?_ | refine G_endblk ?_ | refine G_block ?_ | refine G_exit rfl ?_)
    refine G_region ?_
    refine GO_q rfl rfl (ev_move rfl) ?_
    refine GO_q rfl rfl (ev_assign rfl) ?_
    refine GO_nil ?_
    (repeat first | refine G_seq ?_ | refine G_skip ?_ | refine G_endblk ?_ | refine G_block ?_ | refine G_exit rfl ?_)
    refine G_ret (L' := own 29 3 none 0 0 [] :: L) rfl (.tmp rfl .nil) ?_ ⟨none, 0, rfl, rfl⟩
    exact fun h s => (own.nil_ 29 3 h s).swap
  · (repeat first | refine G_seq ?_ | refine G_skip ?_ | refine G_endblk ?_ | refine G_block ?_ | refine G_exit rfl ?_)
    refine G_cond_t rfl (by simp; omega) ?_
    (repeat first | refine G_seq ?_ | refine G_skip ?_ | refine G_endblk ?_ | refine G_block ?_ | refine G_exit rfl ?_)
    refine G_region ?_
    refine GO_q rfl rfl (ev_move rfl) ?_
    refine GO_q rfl rfl (ev_move rfl) ?_
    refine GO_q rfl rfl (ev_cap rfl) ?_
    refine GO_q rfl rfl (ev_sliceH rfl rfl (by first | omega | (simp; done) | (simp; omega))) ?_
    refine GO_q rfl rfl (ev_move rfl) ?_
    refine GO_eff rfl rfl (eff_appendZ0 rfl (by omega) rfl rfl (by omega) (by omega) (by omega)) ?_; rintro _ _ ⟨b22, c22, us, rfl, hu, hc22, hm22, rfl⟩
    refine GO_q rfl rfl (ev_move rfl) ?_
    refine GO_q rfl rfl (ev_len rfl) ?_
    refine GO_q rfl rfl (ev_sliceH rfl rfl (by first | omega | (simp; done) | (simp; omega))) ?_
    refine GO_q rfl rfl (ev_assign rfl) ?_
    refine GO_nil ?_
    (repeat first | refine G_seq ?_ | refine G_skip ?_ | refine G_endblk ?_ | refine G_block ?_ | refine G_exit rfl ?_)
    refine G_region ?_
    refine GO_q rfl rfl (ev_move rfl) ?_
    refine GO_q rfl rfl (ev_assign rfl) ?_
    refine GO_nil ?_
    (repeat first | refine G_seq ?_ | refine G_skip ?_ | refine G_endblk ?_ | refine G_block ?_ | refine G_exit rfl ?_)
    refine G_ret (L' := own 29 3 (some ⟨b22, 0, none⟩) 0 c22 [] :: L) rfl (.tmp rfl .nil) ?_ ⟨some ⟨b22, 0, none⟩, c22, rfl, rfl⟩
    apply en_pick
    focus ((repeat' first | exact Pick.here | apply Pick.skip | apply Pick.app); done)
    exact en_less .here (Nat.zero_le _) (by simp) en_refl
/-- slices.Concat of two -/
theorem Concat_ctr (A B : Option Addr) (n m c d b1 : Nat) (l q : List Pt) (L : List HP) (hl : l.length = n) (hq : q.length = m) (hn : n ≤ 500000) (hm : m ≤ 500000) (hA : 0 < n → ∃ b, A = some ⟨b, 0, none⟩) (hB : 0 < m → ∃ b, B = some ⟨b, 0, none⟩) :
    Ctr Tryz.prog 120 #[.slice (some ⟨b1, 0, none⟩) 2 2] (blk b1 36 [.slice A n c, .slice B m d] :: own 29 3 A n c (flat l) :: own 29 3 B m d (flat q) :: L) fun v L' => Made 29 (l ++ q) L v L' := by
  have hF : (flat l).length = n * 3 := by rw [flat_length, hl]; rfl
  have hG : (flat q).length = m * 3 := by rw [flat_length, hq]; rfl
  refine Ctr_of (fn := Tryz.f120) (n := 36) Tryz.func120 rfl rfl rfl ?_
  intro g F
  have e0 : Ld (blk b1 36 [.slice A n c, .slice B m d] :: own 29 3 A n c (flat l) :: own 29 3 B m d (flat q) :: L) ⟨b1, 0 + 0 * 1, none⟩ (.slice A n c) := Ld.blk rfl
  have e1 : Ld (blk b1 36 [.slice A n c, .slice B m d] :: own 29 3 A n c (flat l) :: own 29 3 B m d (flat q) :: L) ⟨b1, 0 + 1 * 1, none⟩ (.slice B m d) := Ld.blk rfl
  have r0 : Rc (blk b1 36 [.slice A n c, .slice B m d] :: own 29 3 A n c (flat l) :: own 29 3 B m d (flat q) :: L) 3 A n (flat l) := Rc.skip (Rc.own hF hA)
  have r1 : Rc (blk b1 36 [.slice A n c, .slice B m d] :: own 29 3 A n c (flat l) :: own 29 3 B m d (flat q) :: L) 3 B m (flat q) := Rc.skip (Rc.skip (Rc.own hG hB))
  have hML : ∀ h, sat (blk b1 36 [.slice A n c, .slice B m d] :: own 29 3 A n c (flat l) :: own 29 3 B m d (flat q) :: L) h → sat L h := en_drop (en_drop (en_drop en_refl))
  generalize (blk b1 36 [.slice A n c, .slice B m d] :: own 29 3 A n c (flat l) :: own 29 3 B m d (flat q) :: L) = M at *
  (repeat first | refine G_seq ?_ | refine G_skip ?_ | refine G_endblk ?_ | refine G_block ?_ | refine G_exit rfl ?_)
  refine G_region ?_
  refine GO_q rfl rfl (ev_assign rfl) ?_
  refine GO_nil ?_
  (repeat first | refine G_seq ?_ | refine G_skip ?_ | refine G_endblk ?_ | refine G_block ?_ | refine G_exit rfl ?_)
  refine G_region ?_
  refine GO_q rfl rfl (ev_assign rfl) ?_
  refine GO_nil ?_
  (repeat first | refine G_seq ?_ | refine G_skip ?_ | refine G_endblk ?_ | refine G_block ?_ | refine G_exit rfl ?_)
  refine G_region ?_
  refine GO_q rfl rfl (ev_move rfl) ?_
  refine GO_q rfl rfl (ev_len rfl) ?_
  refine GO_q rfl rfl (ev_move rfl) ?_
  refine GO_nil ?_
  (repeat first | refine G_seq ?_ | refine G_skip ?_ | refine G_endblk ?_)
  refine G_cut (ι := Unit) (fun _ => [(0, .slice (some ⟨b1, 0, none⟩) 2 2), (3, .int .i64 (n + m : Nat))]) (fun _ => F :: M) (fun _ => True) ?_ ?_
  · (repeat first | refine G_seq ?_ | refine G_skip ?_ | refine G_endblk ?_ | refine G_block ?_ | refine G_exit rfl ?_)
    refine G_loop (ι := Nat × Nat) (fun x => [(0, .slice (some ⟨b1, 0, none⟩) 2 2), (3, .int .i64 (x.2 : Nat)), (9, .slice (some ⟨b1, 0, none⟩) 2 2), (10, .int .i64 2), (11, .int .i64 (x.1 : Nat))]) (fun _ => F :: M) (fun x => x = (0, 0) ∨ x = (1, n) ∨ x = (2, n + m)) (fun x => 2 - x.1) (0, 0) (.inl rfl) ⟨rfl, rfl, rfl, rfl, rfl, trivial⟩ (by (repeat first | exact fun _ s => s | apply en_keep | apply en_drop | apply en_app) <;> fail) ?_
    rintro x (rfl | rfl | rfl)
    · dsimp only
      (repeat first | refine G_seq ?_ | refine G_skip ?_ | refine G_endblk ?_ | refine G_block ?_ | refine G_exit rfl ?_)
      refine G_region ?_
      (first | refine GO_q rfl rfl (ev_lssN rfl rfl) ?_ | refine GO_q rfl rfl (ev_lss rfl rfl) ?_)
      refine GO_nil ?_
      (repeat first | refine G_seq ?_ | refine G_skip ?_ | refine G_endblk ?_ | refine G_block ?_ | refine G_exit rfl ?_)
      refine G_cond_t rfl rfl ?_
      (repeat first | refine G_seq ?_ | refine G_skip ?_ | refine G_endblk ?_ | refine G_block ?_ | refine G_exit rfl ?_)
      refine G_region ?_
      (first | refine GO_q rfl rfl (ev_indexAddrN rfl rfl (by first | omega | (simp; done) | (simp; omega))) ?_ | refine GO_q rfl rfl (ev_indexAddr rfl rfl (by first | omega | (simp; done) | (simp; omega)) (by first | omega | (simp; done) | (simp; omega))) ?_)
      refine GO_q rfl rfl (ev_load rfl (by repeat' first | exact Ld.blk rfl | assumption | apply Ld.skip | apply Ld.app)) ?_
      refine GO_q rfl rfl (ev_assign rfl) ?_
      refine GO_nil ?_
      (repeat first | refine G_seq ?_ | refine G_skip ?_ | refine G_endblk ?_ | refine G_block ?_ | refine G_exit rfl ?_)
      refine G_region ?_
      refine GO_q rfl rfl (ev_move rfl) ?_
      refine GO_q rfl rfl (ev_move rfl) ?_
      refine GO_q rfl rfl (ev_len rfl) ?_
      (first | refine GO_q rfl rfl (ev_addN rfl rfl (by first | omega | (simp; done) | (simp; omega))) ?_ | refine GO_q rfl rfl (ev_add rfl rfl (by first | omega | (simp; done) | (simp; omega))) ?_)
      refine GO_q rfl rfl (ev_assign rfl) ?_
      refine GO_nil ?_
      (repeat first | refine G_seq ?_ | refine G_skip ?_ | refine G_endblk ?_ | refine G_block ?_ | refine G_exit rfl ?_)
      refine G_region ?_
      refine GO_q rfl rfl (ev_move rfl) ?_
      (first | refine GO_q rfl rfl (ev_lssN (q := 0) rfl rfl) ?_ | refine GO_q rfl rfl (ev_lss rfl rfl) ?_)
      refine GO_nil ?_
      (repeat first | refine G_seq ?_ | refine G_skip ?_ | refine G_endblk ?_ | refine G_block ?_ | refine G_exit rfl ?_)
      refine G_cond_f rfl rfl ?_
      (repeat first | refine G_seq ?_ | refine G_skip ?_ | refine G_endblk ?_ | refine G_block ?_ | refine G_exit rfl ?_)
      refine G_region ?_
      (first | refine GO_q rfl rfl (ev_addN (q := 1) rfl rfl (by first | omega | (simp; done) | (simp; omega))) ?_ | refine GO_q rfl rfl (ev_add rfl rfl (by first | omega | (simp; done) | (simp; omega))) ?_)
      refine GO_q rfl rfl (ev_move rfl) ?_
      refine GO_nil ?_
      (repeat first | refine G_seq ?_ | refine G_skip ?_ | refine G_endblk ?_ | refine G_block ?_ | refine G_exit rfl ?_)
      exact G_round (1, n) (.inr (.inl rfl)) (by simp) ⟨rfl, by simp only [Nat.zero_add]; rfl, rfl, rfl, rfl, trivial⟩ (by (repeat first | exact fun _ s => s | apply en_keep | apply en_drop | apply en_app) <;> fail)
    · dsimp only
      (repeat first | refine G_seq ?_ | refine G_skip ?_ | refine G_endblk ?_ | refine G_block ?_ | refine G_exit rfl ?_)
      refine G_region ?_
      (first | refine GO_q rfl rfl (ev_lssN rfl rfl) ?_ | refine GO_q rfl rfl (ev_lss rfl rfl) ?_)
      refine GO_nil ?_
      (repeat first | refine G_seq ?_ | refine G_skip ?_ | refine G_endblk ?_ | refine G_block ?_ | refine G_exit rfl ?_)
      refine G_cond_t rfl rfl ?_
      (repeat first | refine G_seq ?_ | refine G_skip ?_ | refine G_endblk ?_ | refine G_block ?_ | refine G_exit rfl ?_)
      refine G_region ?_
      (first | refine GO_q rfl rfl (ev_indexAddrN rfl rfl (by first | omega | (simp; done) | (simp; omega))) ?_ | refine GO_q rfl rfl (ev_indexAddr rfl rfl (by first | omega | (simp; done) | (simp; omega)) (by first | omega | (simp; done) | (simp; omega))) ?_)
      refine GO_q rfl rfl (ev_load rfl (by repeat' first | exact Ld.blk rfl | assumption | apply Ld.skip | apply Ld.app)) ?_
      refine GO_q rfl rfl (ev_assign rfl) ?_
      refine GO_nil ?_
      (repeat first | refine G_seq ?_ | refine G_skip ?_ | refine G_endblk ?_ | refine G_block ?_ | refine G_exit rfl ?_)
      refine G_region ?_
      refine GO_q rfl rfl (ev_move rfl) ?_
      refine GO_q rfl rfl (ev_move rfl) ?_
      refine GO_q rfl rfl (ev_len rfl) ?_
      (first | refine GO_q rfl rfl (ev_addN rfl rfl (by first | omega | (simp; done) | (simp; omega))) ?_ | refine GO_q rfl rfl (ev_add rfl rfl (by first | omega | (simp; done) | (simp; omega))) ?_)
      refine GO_q rfl rfl (ev_assign rfl) ?_
      refine GO_nil ?_
      (repeat first | refine G_seq ?_ | refine G_skip ?_ | refine G_endblk ?_ | refine G_block ?_ | refine G_exit rfl ?_)
      refine G_region ?_
      refine GO_q rfl rfl (ev_move rfl) ?_
      (first | refine GO_q rfl rfl (ev_lssN (q := 0) rfl rfl) ?_ | refine GO_q rfl rfl (ev_lss rfl rfl) ?_)
      refine GO_nil ?_
      (repeat first | refine G_seq ?_ | refine G_skip ?_ | refine G_endblk ?_ | refine G_block ?_ | refine G_exit rfl ?_)
      refine G_cond_f rfl (decide_eq_false (by omega)) ?_
      (repeat first | refine G_seq ?_ | refine G_skip ?_ | refine G_endblk ?_ | refine G_block ?_ | refine G_exit rfl ?_)
      refine G_region ?_
      (first | refine GO_q rfl rfl (ev_addN (q := 1) rfl rfl (by first | omega | (simp; done) | (simp; omega))) ?_ | refine GO_q rfl rfl (ev_add rfl rfl (by first | omega | (simp; done) | (simp; omega))) ?_)
      refine GO_q rfl rfl (ev_move rfl) ?_
      refine GO_nil ?_
      (repeat first | refine G_seq ?_ | refine G_skip ?_ | refine G_endblk ?_ | refine G_block ?_ | refine G_exit rfl ?_)
      exact G_round (2, n + m) (.inr (.inr rfl)) (by simp) ⟨rfl, rfl, rfl, rfl, rfl, trivial⟩ (by (repeat first | exact fun _ s => s | apply en_keep | apply en_drop | apply en_app) <;> fail)
    · dsimp only
      (repeat first | refine G_seq ?_ | refine G_skip ?_ | refine G_endblk ?_ | refine G_block ?_ | refine G_exit rfl ?_)
      refine G_region ?_
      (first | refine GO_q rfl rfl (ev_lssN rfl rfl) ?_ | refine GO_q rfl rfl (ev_lss rfl rfl) ?_)
      refine GO_nil ?_
      (repeat first | refine G_seq ?_ | refine G_skip ?_ | refine G_endblk ?_ | refine G_block ?_ | refine G_exit rfl ?_)
      refine G_cond_f rfl rfl ?_
      (repeat first | refine G_seq ?_ | refine G_skip ?_ | refine G_endblk ?_ | refine G_block ?_ | refine G_exit rfl ?_)
      exact G_inv () trivial ⟨rfl, rfl, trivial⟩ (by (repeat first | exact fun _ s => s | apply en_keep | apply en_drop | apply en_app) <;> fail)
  · rintro _ _
    (repeat first | refine G_seq ?_ | refine G_skip ?_ | refine G_endblk ?_ | refine G_block ?_ | refine G_exit rfl ?_)
    refine G_region ?_
    refine GO_q rfl rfl (ev_move rfl) ?_
    refine GO_eff rfl rfl (eff_call rfl (Grow_ctr (n + m) _ (by omega))) ?_; rintro _ _ ⟨A24, c24, rfl, rfl⟩
    refine GO_q rfl rfl (ev_assign rfl) ?_
    refine GO_nil ?_
    (repeat first | refine G_seq ?_ | refine G_skip ?_ | refine G_endblk ?_ | refine G_block ?_ | refine G_exit rfl ?_)
    refine G_region ?_
    refine GO_q rfl rfl (ev_move rfl) ?_
    refine GO_q rfl rfl (ev_len rfl) ?_
    refine GO_q rfl rfl (ev_move rfl) ?_
    refine GO_nil ?_
    (repeat first | refine G_seq ?_ | refine G_skip ?_ | refine G_endblk ?_)
    refine G_cut (ι := Option Addr × Nat) (fun x => [(6, .slice x.1 (l ++ q).length x.2)]) (fun x => own 29 3 x.1 (l ++ q).length x.2 (flat (l ++ q)) :: F :: M) (fun x => 0 < (l ++ q).length → ∃ b, x.1 = some ⟨b, 0, none⟩) ?_ ?_
    · (repeat first | refine G_seq ?_ | refine G_skip ?_ | refine G_endblk ?_ | refine G_block ?_ | refine G_exit rfl ?_)
      refine G_loop (ι := Nat × Option Addr × Nat × List Pt) (fun x => [(6, .slice x.2.1 x.2.2.2.length x.2.2.1), (25, .slice (some ⟨b1, 0, none⟩) 2 2), (26, .int .i64 2), (27, .int .i64 (x.1 : Nat))]) (fun x => own 29 3 x.2.1 x.2.2.2.length x.2.2.1 (flat x.2.2.2) :: F :: M)
        (fun x => (x.1 = 0 ∧ x.2.2.2 = [] ∨ x.1 = 1 ∧ x.2.2.2 = l ∨ x.1 = 2 ∧ x.2.2.2 = l ++ q) ∧ (0 < x.1 → 0 < x.2.2.2.length → ∃ b, x.2.1 = some ⟨b, 0, none⟩)) (fun x => 2 - x.1) (0, A24, c24, []) ⟨.inl ⟨rfl, rfl⟩, fun h => absurd h (Nat.lt_irrefl 0)⟩ ⟨rfl, rfl, rfl, rfl, trivial⟩ (by (repeat first | exact fun _ s => s | apply en_keep | apply en_drop | apply en_app) <;> fail) ?_
      rintro ⟨k, A2, c2, zs⟩ ⟨g1, g2⟩
      simp only at g1 g2
      dsimp only
      rcases g1 with ⟨rfl, rfl⟩ | ⟨rfl, rfl⟩ | ⟨rfl, rfl⟩
      · (repeat first | refine G_seq ?_ | refine G_skip ?_ | refine G_endblk ?_ | refine G_block ?_ | refine G_exit rfl ?_)
        refine G_region ?_
        (first | refine GO_q rfl rfl (ev_lssN rfl rfl) ?_ | refine GO_q rfl rfl (ev_lss rfl rfl) ?_)
        refine GO_nil ?_
        (repeat first | refine G_seq ?_ | refine G_skip ?_ | refine G_endblk ?_ | refine G_block ?_ | refine G_exit rfl ?_)
        refine G_cond_t rfl rfl ?_
        (repeat first | refine G_seq ?_ | refine G_skip ?_ | refine G_endblk ?_ | refine G_block ?_ | refine G_exit rfl ?_)
        refine G_region ?_
        (first | refine GO_q rfl rfl (ev_indexAddrN rfl rfl (by first | omega | (simp; done) | (simp; omega))) ?_ | refine GO_q rfl rfl (ev_indexAddr rfl rfl (by first | omega | (simp; done) | (simp; omega)) (by first | omega | (simp; done) | (simp; omega))) ?_)
        refine GO_q rfl rfl (ev_load rfl (by repeat' first | exact Ld.blk rfl | assumption | apply Ld.skip | apply Ld.app)) ?_
        refine GO_q rfl rfl (ev_assign rfl) ?_
        refine GO_nil ?_
        (repeat first | refine G_seq ?_ | refine G_skip ?_ | refine G_endblk ?_ | refine G_block ?_ | refine G_exit rfl ?_)
        refine G_region ?_
        refine GO_q rfl rfl (ev_move rfl) ?_
        refine GO_q rfl rfl (ev_move rfl) ?_
        refine GO_eff rfl rfl (eff_append rfl rfl (by repeat' first | exact Pick.here | apply Pick.skip) (Rc.skip (Rc.skip r0)) ((flat_one _)) (by rfl) (by decide) (by first | omega | (simp; done) | (simp; omega)) (by first | omega | (simp; done) | (simp; omega))) ?_; rintro _ _ ⟨A33, c33, rfl, hc33, hm33, hn33, rfl⟩
        refine GO_q rfl rfl (ev_assign rfl) ?_
        refine GO_nil ?_
        (repeat first | refine G_seq ?_ | refine G_skip ?_ | refine G_endblk ?_ | refine G_block ?_ | refine G_exit rfl ?_)
        refine G_region ?_
        (first | refine GO_q rfl rfl (ev_addN (q := 1) rfl rfl (by first | omega | (simp; done) | (simp; omega))) ?_ | refine GO_q rfl rfl (ev_add rfl rfl (by first | omega | (simp; done) | (simp; omega))) ?_)
        refine GO_q rfl rfl (ev_move rfl) ?_
        refine GO_nil ?_
        (repeat first | refine G_seq ?_ | refine G_skip ?_ | refine G_endblk ?_ | refine G_block ?_ | refine G_exit rfl ?_)
        exact G_round (1, A33, c33, l) ⟨.inr (.inl ⟨rfl, rfl⟩), fun _ h => hn33 (by simpa [hl] using h)⟩ (by simp) ⟨by simp only [List.length_nil, Nat.zero_add, hl]; rfl, rfl, rfl, rfl, trivial⟩ (by
          simp only [List.length_nil, Nat.zero_add, hl]
          exact (by (repeat first | exact fun _ s => s | apply en_keep | apply en_drop | apply en_app) <;> fail))
      · (repeat first | refine G_seq ?_ | refine G_skip ?_ | refine G_endblk ?_ | refine G_block ?_ | refine G_exit rfl ?_)
        refine G_region ?_
        (first | refine GO_q rfl rfl (ev_lssN rfl rfl) ?_ | refine GO_q rfl rfl (ev_lss rfl rfl) ?_)
        refine GO_nil ?_
        (repeat first | refine G_seq ?_ | refine G_skip ?_ | refine G_endblk ?_ | refine G_block ?_ | refine G_exit rfl ?_)
        refine G_cond_t rfl rfl ?_
        (repeat first | refine G_seq ?_ | refine G_skip ?_ | refine G_endblk ?_ | refine G_block ?_ | refine G_exit rfl ?_)
        refine G_region ?_
        (first | refine GO_q rfl rfl (ev_indexAddrN rfl rfl (by first | omega | (simp; done) | (simp; omega))) ?_ | refine GO_q rfl rfl (ev_indexAddr rfl rfl (by first | omega | (simp; done) | (simp; omega)) (by first | omega | (simp; done) | (simp; omega))) ?_)
        refine GO_q rfl rfl (ev_load rfl (by repeat' first | exact Ld.blk rfl | assumption | apply Ld.skip | apply Ld.app)) ?_
        refine GO_q rfl rfl (ev_assign rfl) ?_
        refine GO_nil ?_
        have hr1 : ∀ X, Rc (X :: F :: M) 3 B m (flat q) := fun X => Rc.skip (Rc.skip r1)
        (repeat first | refine G_seq ?_ | refine G_skip ?_ | refine G_endblk ?_ | refine G_block ?_ | refine G_exit rfl ?_)
        refine G_region ?_
        refine GO_q rfl rfl (ev_move rfl) ?_
        refine GO_q rfl rfl (ev_move rfl) ?_
        refine GO_eff rfl rfl (eff_append rfl rfl (by repeat' first | exact Pick.here | apply Pick.skip) (hr1 _) ((flat_one _)) (by rfl) (by decide) (by first | omega | (simp; done) | (simp; omega)) (by first | omega | (simp; done) | (simp; omega))) ?_; rintro _ _ ⟨A33, c33, rfl, hc33, hm33, hn33, rfl⟩
        refine GO_q rfl rfl (ev_assign rfl) ?_
        refine GO_nil ?_
        (repeat first | refine G_seq ?_ | refine G_skip ?_ | refine G_endblk ?_ | refine G_block ?_ | refine G_exit rfl ?_)
        refine G_region ?_
        (first | refine GO_q rfl rfl (ev_addN (q := 1) rfl rfl (by first | omega | (simp; done) | (simp; omega))) ?_ | refine GO_q rfl rfl (ev_add rfl rfl (by first | omega | (simp; done) | (simp; omega))) ?_)
        refine GO_q rfl rfl (ev_move rfl) ?_
        refine GO_nil ?_
        (repeat first | refine G_seq ?_ | refine G_skip ?_ | refine G_endblk ?_ | refine G_block ?_ | refine G_exit rfl ?_)
        exact G_round (2, A33, c33, zs ++ q) ⟨.inr (.inr ⟨rfl, rfl⟩), fun _ h => hn33 (by simpa [hq] using h)⟩ (by simp) ⟨by simp only [List.length_append, hq]; rfl, rfl, rfl, rfl, trivial⟩ (by
          simp only [List.length_append, hq]
          refine en_own .here ?_ en_refl
          rw [flat_append])
      · (repeat first | refine G_seq ?_ | refine G_skip ?_ | refine G_endblk ?_ | refine G_block ?_ | refine G_exit rfl ?_)
        refine G_region ?_
        (first | refine GO_q rfl rfl (ev_lssN rfl rfl) ?_ | refine GO_q rfl rfl (ev_lss rfl rfl) ?_)
        refine GO_nil ?_
        (repeat first | refine G_seq ?_ | refine G_skip ?_ | refine G_endblk ?_ | refine G_block ?_ | refine G_exit rfl ?_)
        refine G_cond_f rfl rfl ?_
        (repeat first | refine G_seq ?_ | refine G_skip ?_ | refine G_endblk ?_ | refine G_block ?_ | refine G_exit rfl ?_)
        exact G_inv (A2, c2) (g2 (by omega)) ⟨rfl, trivial⟩ (by (repeat first | exact fun _ s => s | apply en_keep | apply en_drop | apply en_app) <;> fail)
    · rintro ⟨A2, c2⟩ g2
      simp only at g2
      dsimp only
      (repeat first | refine G_seq ?_ | refine G_skip ?_ | refine G_endblk ?_ | refine G_block ?_ | refine G_exit rfl ?_)
      refine G_region ?_
      refine GO_q rfl rfl (ev_move rfl) ?_
      refine GO_q rfl rfl (ev_assign rfl) ?_
      refine GO_nil ?_
      (repeat first | refine G_seq ?_ | refine G_skip ?_ | refine G_endblk ?_ | refine G_block ?_ | refine G_exit rfl ?_)
      refine G_ret (L' := own 29 3 A2 (l ++ q).length c2 (flat (l ++ q)) :: L) rfl (.tmp rfl .nil) ?_ ⟨A2, c2, rfl, g2, rfl⟩
      exact en_pick (.skip .here) (en_keep hML)
end Go.Proofs.YtalcanejhniepaaGreat
/- The library's functions that take a function, and lists in order, at points. -/
namespace Go.Proofs.YtalcanejhniepaaGreat
attribute [local irreducible] sat
set_option linter.unusedVariables false
set_option linter.unusedSimpArgs false
set_option maxRecDepth 100000

@[reducible] def Pt.v (p : Pt) : Value := .agg #[.int .i64 p.id, .int .i64 p.x, .int .i64 p.y]
/-- .. and how much room there is. -/
def MadeC (T : TypeId) {α : Type} [E : Enc α] (l : List α) (L : List HP) (v : Value) (L' : List HP) : Prop := ∃ A c, v = .slice A l.length c ∧ (0 < l.length → ∃ b, A = some ⟨b, 0, none⟩) ∧ l.length ≤ c ∧ c ≤ maxLen ∧ L' = own T E.sz A l.length c (flat l) :: L
theorem Ctr.made {P : Program} {f : FuncId} {args : Array Value} {L0 L : List HP} {T : TypeId} {α : Type} [E : Enc α] {l : List α} (h : Ctr P f args L0 fun v L' => Made T l L v L') : Ctr P f args L0 fun v L' => MadeC T l L v L' := fun g F w hw =>
  (h g F w hw).mono fun e w' ⟨v, L', e1, ⟨A, c, e2, e3, e4⟩, hw'⟩ => by
    subst e4
    have q := own.facts hw'.s.tail
    exact ⟨v, _, e1, ⟨A, c, e2, e3, q.2.1, q.2.2.1, rfl⟩, hw'⟩
theorem seek_ctr (f : FuncId) [CalT Tryz.prog f] (c1 c2 : List Value) (p : Pt → Bool) (A : Option Addr) (n c k : Nat) (l : List Pt) (L : List HP) (hl : Rd L A n l) (hn : n ≤ 1000000) (hk : k ≤ n) (hp : ∀ (j : Nat) (a : Pt), l[j]? = some a → (p a = true ↔ k ≤ j))
    (hf : ∀ a : Pt, Ctr Tryz.prog f (c1 ++ [a.v] ++ c2).toArray L fun v L' => v = .bool (p a) ∧ L' = L) :
    Ctr Tryz.prog 128 #[.slice A n c, .func (.func f) c1.toArray c2.toArray] L fun v L' => v = .int .i64 (k : Nat) ∧ L' = L := by
  have h1 : l.length = n := hl.len (by decide)
  refine Ctr_of (fn := Tryz.f128) (n := 29) Tryz.func128 rfl rfl rfl ?_
  intro g F
  (repeat first | refine G_seq ?_ | refine G_skip ?_ | refine G_endblk ?_ | refine G_block ?_ | refine G_exit rfl ?_)
  refine G_region ?_
  refine GO_q rfl rfl (ev_assign rfl) ?_
  refine GO_nil ?_
  (repeat first | refine G_seq ?_ | refine G_skip ?_ | refine G_endblk ?_ | refine G_block ?_ | refine G_exit rfl ?_)
  refine G_region ?_
  refine GO_q rfl rfl (ev_move rfl) ?_
  refine GO_q rfl rfl (ev_len rfl) ?_
  refine GO_q rfl rfl (ev_assign rfl) ?_
  refine GO_q rfl rfl (ev_assign rfl) ?_
  refine GO_nil ?_
  (repeat first | refine G_seq ?_ | refine G_skip ?_ | refine G_endblk ?_ | refine G_block ?_ | refine G_exit rfl ?_)
  refine G_loop (ι := Nat × Nat) (fun x => [(0, .slice A n c), (1, .func (.func f) c1.toArray c2.toArray), (5, .int .i64 (x.1 : Nat)), (6, .int .i64 (x.2 : Nat))]) (fun _ => F :: L) (fun x => x.1 ≤ k ∧ k ≤ x.2 ∧ x.2 ≤ n) (fun x => x.2 - x.1) (0, n) ⟨Nat.zero_le _, hk, Nat.le_refl _⟩ ⟨rfl, rfl, rfl, rfl, trivial⟩ (by (repeat first | exact fun _ s => s | apply en_keep | apply en_drop | apply en_app) <;> fail) ?_
  rintro ⟨lo, hi⟩ ⟨f1, f2, f3⟩
  simp only at f1 f2 f3
  dsimp only
  (repeat first | refine G_seq ?_ | refine G_skip ?_ | refine G_endblk ?_ | refine G_block ?_ | refine G_exit rfl ?_)
  refine G_region ?_
  refine GO_q rfl rfl (ev_move rfl) ?_
  refine GO_q rfl rfl (ev_move rfl) ?_
  (first | refine GO_q rfl rfl (ev_lssN rfl rfl) ?_ | refine GO_q rfl rfl (ev_lss rfl rfl) ?_)
  refine GO_nil ?_
  (repeat first | refine G_seq ?_ | refine G_skip ?_ | refine G_endblk ?_ | refine G_block ?_ | refine G_exit rfl ?_)
  refine G_cond rfl (fun h4 => ?_) (fun h4 => ?_)
  · obtain ⟨b1, o1, rfl, x1⟩ := hl.at_ (by omega)
    have hmid : lo + (hi - lo) / 2 < hi := by omega
    have g1 : l[lo + (hi - lo) / 2]? = some l[lo + (hi - lo) / 2] := List.getElem?_eq_getElem (by omega)
    have y1 := x1 _ _ g1
    have hpu := hp _ _ g1
    generalize l[lo + (hi - lo) / 2] = u at *
    (repeat first | refine G_seq ?_ | refine G_skip ?_ | refine G_endblk ?_ | refine G_block ?_ | refine G_exit rfl ?_)
    refine G_region ?_
    refine GO_q rfl rfl (ev_move rfl) ?_
    refine GO_q rfl rfl (ev_move rfl) ?_
    refine GO_q rfl rfl (ev_move rfl) ?_
    (first | refine GO_q rfl rfl (ev_subN rfl rfl (by first | omega | (simp; done) | (simp; omega))) ?_ | refine GO_q rfl rfl (ev_sub rfl rfl (by first | omega | (simp; done) | (simp; omega))) ?_)
    (first | refine GO_q rfl rfl (ev_quoN (q := 2) rfl rfl (by first | omega | (simp; done) | (simp; omega)) (by first | omega | (simp; done) | (simp; omega))) ?_ | refine GO_q rfl rfl (ev_quo rfl rfl (by first | omega | (simp; done) | (simp; omega)) (by first | omega | (simp; done) | (simp; omega)) (by first | omega | (simp; done) | (simp; omega))) ?_)
    (first | refine GO_q rfl rfl (ev_addN rfl rfl (by first | omega | (simp; done) | (simp; omega))) ?_ | refine GO_q rfl rfl (ev_add rfl rfl (by first | omega | (simp; done) | (simp; omega))) ?_)
    refine GO_q rfl rfl (ev_assign rfl) ?_
    refine GO_nil ?_
    obtain ⟨m, hm⟩ : ∃ m, lo + (hi - lo) / 2 = m := ⟨_, rfl⟩
    have hlm : lo ≤ m := by omega
    rw [hm] at hmid y1 hpu
    rw [hm]
    have z1 : LdN L b1 (o1 + m * 3) 3 [.int .i64 u.id, .int .i64 u.x, .int .i64 u.y] := y1
    (repeat first | refine G_seq ?_ | refine G_skip ?_ | refine G_endblk ?_ | refine G_block ?_ | refine G_exit rfl ?_)
    refine G_region ?_
    refine GO_q rfl rfl (ev_move rfl) ?_
    refine GO_q rfl rfl (ev_move rfl) ?_
    refine GO_q rfl rfl (ev_move rfl) ?_
    (first | refine GO_q rfl rfl (ev_indexAddrN rfl rfl (by first | omega | (simp; done) | (simp; omega))) ?_ | refine GO_q rfl rfl (ev_indexAddr rfl rfl (by first | omega | (simp; done) | (simp; omega)) (by first | omega | (simp; done) | (simp; omega))) ?_)
    refine GO_q rfl rfl (ev_loadN rfl (by repeat' first | exact LdN.blk rfl | assumption | apply LdN.skip | apply LdN.app)) ?_
    refine GO_eff rfl rfl (eff_callv rfl rfl (Ctr.frame [F] (hf u) en_refl)) ?_; rintro _ _ ⟨_, ⟨rfl, rfl⟩, rfl⟩
    refine GO_nil ?_
    (repeat first | refine G_seq ?_ | refine G_skip ?_ | refine G_endblk ?_ | refine G_block ?_ | refine G_exit rfl ?_)
    refine G_condB rfl (fun h5 => ?_) (fun h5 => ?_)
    · have := hpu.1 h5
      (repeat first | refine G_seq ?_ | refine G_skip ?_ | refine G_endblk ?_ | refine G_block ?_ | refine G_exit rfl ?_)
      refine G_region ?_
      refine GO_q rfl rfl (ev_move rfl) ?_
      refine GO_q rfl rfl (ev_assign rfl) ?_
      refine GO_nil ?_
      (repeat first | refine G_seq ?_ | refine G_skip ?_ | refine G_endblk ?_ | refine G_block ?_ | refine G_exit rfl ?_)
      exact G_round (lo, m) ⟨f1, this, by simp only; omega⟩ (by simp only; omega) ⟨rfl, rfl, rfl, rfl, trivial⟩ (by (repeat first | exact fun _ s => s | apply en_keep | apply en_drop | apply en_app) <;> fail)
    · have : ¬ k ≤ m := fun h => by rw [hpu.2 h] at h5; cases h5
      (repeat first | refine G_seq ?_ | refine G_skip ?_ | refine G_endblk ?_ | refine G_block ?_ | refine G_exit rfl ?_)
      refine G_region ?_
      refine GO_q rfl rfl (ev_move rfl) ?_
      (first | refine GO_q rfl rfl (ev_addN (q := 1) rfl rfl (by first | omega | (simp; done) | (simp; omega))) ?_ | refine GO_q rfl rfl (ev_add rfl rfl (by first | omega | (simp; done) | (simp; omega))) ?_)
      refine GO_q rfl rfl (ev_assign rfl) ?_
      refine GO_nil ?_
      (repeat first | refine G_seq ?_ | refine G_skip ?_ | refine G_endblk ?_ | refine G_block ?_ | refine G_exit rfl ?_)
      exact G_round (m + 1, hi) ⟨by simp only; omega, f2, f3⟩ (by simp only; omega) ⟨rfl, rfl, rfl, rfl, trivial⟩ (by (repeat first | exact fun _ s => s | apply en_keep | apply en_drop | apply en_app) <;> fail)
  · have e : lo = k := by omega
    subst e
    (repeat first | refine G_seq ?_ | refine G_skip ?_ | refine G_endblk ?_ | refine G_block ?_ | refine G_exit rfl ?_)
    refine G_region ?_
    refine GO_q rfl rfl (ev_move rfl) ?_
    refine GO_q rfl rfl (ev_assign rfl) ?_
    refine GO_nil ?_
    (repeat first | refine G_seq ?_ | refine G_skip ?_ | refine G_endblk ?_ | refine G_block ?_ | refine G_exit rfl ?_)
    refine G_ret rfl (.tmp rfl .nil) (by (repeat first | exact fun _ s => s | apply en_keep | apply en_drop | apply en_app) <;> fail) ⟨rfl, rfl⟩
end Go.Proofs.YtalcanejhniepaaGreat
/- Points in order: the plain part. -/
namespace Go.Proofs.YtalcanejhniepaaGreat
set_option linter.unusedVariables false
set_option linter.unusedSimpArgs false

theorem Pt.less_iff (p q : Pt) : p.less q = true ↔ (p.x < q.x ∨ p.x = q.x ∧ (p.y < q.y ∨ p.y = q.y ∧ p.id < q.id)) := by
  unfold Pt.less
  by_cases h1 : p.x = q.x
  · by_cases h2 : p.y = q.y
    · simp [h1, h2]
    · simp [h1, h2]
  · simp [h1]
theorem Pt.ext_iff' (p q : Pt) : p = q ↔ (p.id = q.id ∧ p.x = q.x ∧ p.y = q.y) := by
  obtain ⟨a, b, c⟩ := p
  obtain ⟨d, e, f⟩ := q
  simp
theorem Pt.less_irrefl (p : Pt) : p.less p = false := by
  cases h : p.less p with
  | false => rfl
  | true => rw [Pt.less_iff] at h; omega
theorem Pt.less_trans {p q r : Pt} (h : p.less q = true) (k : q.less r = true) : p.less r = true := by
  rw [Pt.less_iff] at *; omega
theorem Pt.less_asymm {p q : Pt} (h : p.less q = true) : q.less p = false := by
  cases k : q.less p with
  | false => rfl
  | true => rw [Pt.less_iff] at *; omega
theorem Pt.less_total {p q : Pt} (h : p ≠ q) (k : p.less q = false) : q.less p = true := by
  rw [Pt.less_iff]
  have k2 : ¬ p.less q = true := by rw [k]; simp
  rw [Pt.less_iff] at k2
  rw [ne_eq, Pt.ext_iff'] at h
  omega
theorem Pt.cmp_le (p q : Pt) : ¬ 0 < p.cmp q ↔ q.less p = false := by
  unfold Pt.cmp
  by_cases h : p = q
  · subst h; simp [Pt.less_irrefl]
  · by_cases k : p.less q = true
    · simp [h, k, Pt.less_asymm k]
    · have k' : p.less q = false := by simpa using k
      simp [h, k', Pt.less_total h k']
theorem Pt.cmp_gt (p q : Pt) : 0 < p.cmp q ↔ q.less p = true := by
  have := Pt.cmp_le p q
  constructor
  · intro h
    cases k : q.less p with
    | true => rfl
    | false => exact absurd h (this.2 k)
  · intro h
    cases Nat.lt_or_ge 0 1 with
    | inl _ =>
      rcases Int.lt_or_le 0 (p.cmp q) with h1 | h1
      · exact h1
      · have := this.1 (by omega)
        rw [h] at this; cases this
    | inr h0 => omega
/-- In strict order. -/
def Asc (l : List Pt) : Prop := l.Pairwise fun a b => a.less b = true
/-- A point put in. -/
def putP (v : Pt) (l : List Pt) : List Pt := l.takeWhile (fun x => !v.less x) ++ v :: l.dropWhile (fun x => !v.less x)
def putK (v : Pt) (l : List Pt) : Nat := (l.takeWhile (fun x => !v.less x)).length
theorem putK_le (v : Pt) (l : List Pt) : putK v l ≤ l.length := (List.takeWhile_prefix _).length_le
theorem putP_eq (v : Pt) (l : List Pt) : putP v l = l.take (putK v l) ++ [v] ++ l.drop (putK v l) := by
  have h := List.takeWhile_append_dropWhile (p := fun x => !v.less x) (l := l)
  have key : ∀ (a b : List Pt), a ++ b = l → l.take a.length = a ∧ l.drop a.length = b := by
    rintro a b rfl
    exact ⟨List.take_left, List.drop_left⟩
  obtain ⟨h1, h2⟩ := key _ _ h
  unfold putK
  rw [h1, h2]
  simp [putP]
theorem putP_perm (v : Pt) (l : List Pt) : (putP v l).Perm (v :: l) := by
  unfold putP
  refine List.perm_middle.trans ?_
  rw [List.takeWhile_append_dropWhile]
theorem putP_length (v : Pt) (l : List Pt) : (putP v l).length = l.length + 1 := by rw [(putP_perm v l).length_eq]; rfl
theorem putK_spec (v : Pt) : ∀ (l : List Pt), Asc l → ∀ (j : Nat) (a : Pt), l[j]? = some a → (v.less a = true ↔ putK v l ≤ j)
  | [], _, j, a, h => by simp at h
  | b :: l, ho, j, a, h => by
    unfold Asc at ho
    rw [List.pairwise_cons] at ho
    cases hb : v.less b with
    | true =>
      have e : putK v (b :: l) = 0 := by simp [putK, hb]
      rw [e]
      refine ⟨fun _ => Nat.zero_le _, fun _ => ?_⟩
      cases j with
      | zero => simp at h; subst h; exact hb
      | succ j => exact Pt.less_trans hb (ho.1 a (List.mem_of_getElem? (by simpa using h)))
    | false =>
      have e : putK v (b :: l) = putK v l + 1 := by simp [putK, hb]
      rw [e]
      cases j with
      | zero =>
        simp at h; subst h
        rw [hb]
        simp
      | succ j =>
        rw [putK_spec v l ho.2 j a (by simpa using h)]
        omega
theorem putP_asc (v : Pt) (l : List Pt) (ho : Asc l) (hv : v ∉ l) : Asc (putP v l) := by
  induction l with
  | nil => simp [putP, Asc]
  | cons b l ih =>
    have ho' := ho
    unfold Asc at ho
    rw [List.pairwise_cons] at ho
    cases hb : v.less b with
    | true =>
      have e : putP v (b :: l) = v :: b :: l := by simp [putP, hb]
      rw [e]
      unfold Asc
      rw [List.pairwise_cons]
      refine ⟨fun a ha => ?_, ho'⟩
      rcases List.mem_cons.1 ha with rfl | ha
      · exact hb
      · exact Pt.less_trans hb (ho.1 a ha)
    | false =>
      have e : putP v (b :: l) = b :: putP v l := by simp [putP, hb]
      rw [e]
      unfold Asc
      rw [List.pairwise_cons]
      refine ⟨fun a ha => ?_, ih ho.2 (fun h => hv (List.mem_cons_of_mem _ h))⟩
      rcases List.mem_cons.1 ((putP_perm v l).subset ha) with rfl | ha
      · exact Pt.less_total (fun h => hv (by rw [h]; simp)) hb
      · exact ho.1 a ha
theorem Asc.nodup {l : List Pt} (h : Asc l) : l.Nodup := h.imp fun {a b} hab e => by subst e; rw [Pt.less_irrefl] at hab; cases hab
/-- Two lists in order of the same points are one. -/
theorem Asc.unique : ∀ {l m : List Pt}, Asc l → Asc m → l.Perm m → l = m
  | [], m, _, _, p => by simpa using p.symm.eq_nil
  | a :: l, [], _, _, p => by simpa using p.eq_nil
  | a :: l, b :: m, h1, h2, p => by
    have h1' := h1
    have h2' := h2
    unfold Asc at h1 h2
    rw [List.pairwise_cons] at h1 h2
    have e : a = b := by
      have ha : a ∈ b :: m := p.subset (by simp)
      have hb : b ∈ a :: l := p.symm.subset (by simp)
      rcases List.mem_cons.1 ha with h | h
      · exact h
      · rcases List.mem_cons.1 hb with h' | h'
        · exact h'.symm
        · have := Pt.less_asymm (h1.1 _ h')
          rw [h2.1 _ h] at this; cases this
    subst e
    rw [Asc.unique h1.2 h2.2 p.cons_inv]
theorem Asc.append {l m : List Pt} (h1 : Asc l) (h2 : Asc m) (h : ∀ a ∈ l, ∀ b ∈ m, a.less b = true) : Asc (l ++ m) := List.pairwise_append.2 ⟨h1, h2, h⟩
theorem Asc.sub {l m : List Pt} (h : Asc m) (s : l.Sublist m) : Asc l := h.sublist s
end Go.Proofs.YtalcanejhniepaaGreat
/- Lists of points in order: the walks. -/
namespace Go.Proofs.YtalcanejhniepaaGreat
attribute [local irreducible] sat
set_option linter.unusedVariables false
set_option linter.unusedSimpArgs false
set_option maxRecDepth 100000

theorem behind1_ctr (a v : Pt) (b4 b5 : Nat) (L : List HP) (h4 : LdN L b4 0 3 [.int .i64 v.id, .int .i64 v.x, .int .i64 v.y]) (h5 : Ld L ⟨b5, 0, none⟩ (.func (.func 114) #[] #[])) :
    Ctr Tryz.prog 129 #[a.v, .pointer (some ⟨b5, 0, none⟩), .pointer (some ⟨b4, 0, none⟩)] L fun r L' => r = .bool (v.less a) ∧ L' = L := by
  refine Ctr_of (fn := Tryz.f129) (n := 9) Tryz.func129 rfl rfl rfl ?_
  intro g F
  (repeat first | refine G_seq ?_ | refine G_skip ?_ | refine G_endblk ?_ | refine G_block ?_ | refine G_exit rfl ?_)
  refine G_region ?_
  refine GO_eff rfl rfl (eff_box rfl) ?_; rintro _ _ ⟨b3, rfl, rfl⟩
  refine GO_q rfl rfl (ev_assign rfl) ?_
  refine GO_nil ?_
  (repeat first | refine G_seq ?_ | refine G_skip ?_ | refine G_endblk ?_ | refine G_block ?_ | refine G_exit rfl ?_)
  refine G_region ?_
  refine GO_q rfl rfl (ev_load rfl (by repeat' first | exact Ld.blk rfl | assumption | apply Ld.skip | apply Ld.app)) ?_
  refine GO_q rfl rfl (ev_loadN rfl (by repeat' first | exact LdN.blk rfl | assumption | apply LdN.skip | apply LdN.app)) ?_
  refine GO_q rfl rfl (ev_loadN rfl (by repeat' first | exact LdN.blk rfl | assumption | apply LdN.skip | apply LdN.app)) ?_
  refine GO_eff rfl rfl (eff_callv rfl rfl (less_ctr v a _)) ?_; rintro _ _ ⟨rfl, rfl⟩
  refine GO_q rfl rfl (ev_assign rfl) ?_
  refine GO_nil ?_
  (repeat first | refine G_seq ?_ | refine G_skip ?_ | refine G_endblk ?_ | refine G_block ?_ | refine G_exit rfl ?_)
  refine G_ret rfl (.tmp rfl .nil) (by (repeat first | exact fun _ s => s | apply en_keep | apply en_drop | apply en_app) <;> fail) ⟨rfl, rfl⟩
theorem behind_ctr (A : Option Addr) (n c : Nat) (l : List Pt) (v : Pt) (L : List HP) (hl : Rd L A n l) (hn : n ≤ 1000000) (ho : Asc l) :
    Ctr Tryz.prog 124 #[.slice A n c, v.v, .func (.func 114) #[] #[]] L fun r L' => r = .int .i64 (putK v l : Nat) ∧ L' = L := by
  have h1 : l.length = n := hl.len (by decide)
  have hk := putK_le v l
  refine Ctr_of (fn := Tryz.f124) (n := 10) Tryz.func124 rfl rfl rfl ?_
  intro g F
  (repeat first | refine G_seq ?_ | refine G_skip ?_ | refine G_endblk ?_ | refine G_block ?_ | refine G_exit rfl ?_)
  refine G_region ?_
  refine GO_eff rfl rfl (eff_box rfl) ?_; rintro _ _ ⟨b4, rfl, rfl⟩
  refine GO_eff rfl rfl (eff_box rfl) ?_; rintro _ _ ⟨b5, rfl, rfl⟩
  refine GO_q rfl rfl (ev_assign rfl) ?_
  refine GO_nil ?_
  (repeat first | refine G_seq ?_ | refine G_skip ?_ | refine G_endblk ?_ | refine G_block ?_ | refine G_exit rfl ?_)
  refine G_region ?_
  refine GO_q rfl rfl (ev_move rfl) ?_
  refine GO_q rfl rfl (ev_makeFunc rfl rfl) ?_
  refine GO_eff rfl rfl (eff_call rfl (seek_ctr 129 [] [.pointer (some ⟨b5, 0, none⟩), .pointer (some ⟨b4, 0, none⟩)] (fun a => v.less a) A n c (putK v l) l _ (by repeat' first | exact Rc.blk rfl | assumption | apply Rd.skip | apply Rd.app) hn (by omega) (putK_spec v l ho) (fun a => behind1_ctr a v b4 b5 _ (by repeat' first | exact LdN.blk rfl | assumption | apply LdN.skip | apply LdN.app) (by repeat' first | exact Ld.blk rfl | assumption | apply Ld.skip | apply Ld.app)))) ?_; rintro _ _ ⟨rfl, rfl⟩
  refine GO_q rfl rfl (ev_assign rfl) ?_
  refine GO_nil ?_
  (repeat first | refine G_seq ?_ | refine G_skip ?_ | refine G_endblk ?_ | refine G_block ?_ | refine G_exit rfl ?_)
  refine G_ret rfl (.tmp rfl .nil) (by (repeat first | exact fun _ s => s | apply en_keep | apply en_drop | apply en_app) <;> fail) ⟨rfl, rfl⟩
theorem Put_ctr (A : Option Addr) (n c : Nat) (l : List Pt) (v : Pt) (L : List HP) (hl : Rd L A n l) (hn : n ≤ 100000) (ho : Asc l) :
    Ctr Tryz.prog 119 #[.slice A n c, v.v, .func (.func 114) #[] #[]] L fun r L' => Made 29 (putP v l) L r L' := by
  have h1 : l.length = n := hl.len (by decide)
  have hk := putK_le v l
  rw [putP_eq]
  refine Ctr_of (fn := Tryz.f119) (n := 16) Tryz.func119 rfl rfl rfl ?_
  intro g F
  (repeat first | refine G_seq ?_ | refine G_skip ?_ | refine G_endblk ?_ | refine G_block ?_ | refine G_exit rfl ?_)
  refine G_region ?_
  refine GO_eff rfl rfl (eff_box rfl) ?_; rintro _ _ ⟨b4, rfl, rfl⟩
  refine GO_q rfl rfl (ev_assign rfl) ?_
  refine GO_nil ?_
  (repeat first | refine G_seq ?_ | refine G_skip ?_ | refine G_endblk ?_ | refine G_block ?_ | refine G_exit rfl ?_)
  refine G_draw (.q 0 (.q 2 (.q 3 (.q 4 (.q 6 (.br 1 (.br 5 (.e 7 (.e 8 (.q 9 .nil))) 7 (.e 5 (.e 8 (.q 9 .nil)))) 7 (.e 1 (.e 5 (.e 8 (.q 9 .nil)))))))))) (by kernel_rfl) (by kernel_rfl) ?_
  refine RS_m retB_noPanic rfl rfl rfl rfl (ev_move rfl) ?_
  refine RS_m retB_noPanic rfl rfl rfl rfl (ev_move rfl) ?_
  refine RS_q retB_noPanic rfl rfl rfl rfl (ev_loadN rfl (by repeat' first | exact LdN.blk rfl | assumption | apply LdN.skip | apply LdN.app)) ?_
  refine RS_m retB_noPanic rfl rfl rfl rfl (ev_move rfl) ?_
  refine RS_q retB_noPanic rfl rfl rfl rfl (ev_loadN rfl (by repeat' first | exact LdN.blk rfl | assumption | apply LdN.skip | apply LdN.app)) ?_
  refine RS_br ?x1_0 ?x1_1
  case' x1_1 =>
    refine RE_eff rfl rfl rfl (eff_buildSlice1 (by rfl) rfl rfl) ?_; rintro _ _ ⟨b14, rfl, rfl⟩; refine ⟨_, (by first | ((repeat first | exact fun _ s => s | apply en_keep | apply en_drop | apply en_app) <;> fail) | ((repeat first | exact en_refl | (apply en_blk; focus ((repeat' first | exact Pick.here | apply Pick.skip | apply Pick.app); done); focus rfl) | (apply en_own; focus ((repeat' first | exact Pick.here | apply Pick.skip | apply Pick.app); done); focus rfl) | (apply en_pick; focus ((repeat' first | exact Pick.here | apply Pick.skip | apply Pick.app); done)) | apply en_drop | apply en_app) <;> fail)), fun _ s => s, ?_⟩
    refine RS_e (RE_eff rfl rfl rfl (eff_call rfl (Clone_ctr A n c l _ (by repeat' first | exact Rc.blk rfl | assumption | apply Rd.skip | apply Rd.app) (by omega))) ?_); rintro _ _ ⟨A8, c8, rfl, hn8, rfl⟩; refine ⟨_, (by first | ((repeat first | exact fun _ s => s | apply en_keep | apply en_drop | apply en_app) <;> fail) | ((repeat first | exact en_refl | (apply en_blk; focus ((repeat' first | exact Pick.here | apply Pick.skip | apply Pick.app); done); focus rfl) | (apply en_own; focus ((repeat' first | exact Pick.here | apply Pick.skip | apply Pick.app); done); focus rfl) | (apply en_pick; focus ((repeat' first | exact Pick.here | apply Pick.skip | apply Pick.app); done)) | apply en_drop | apply en_app) <;> fail)), fun _ s => s, ?_⟩
    refine RS_e (RE_eff rfl rfl rfl (eff_call rfl (behind_ctr A n c l v _ (by repeat' first | exact Rc.blk rfl | assumption | apply Rd.skip | apply Rd.app) (by omega) ho)) ?_); rintro _ _ ⟨rfl, rfl⟩; refine ⟨_, (by first | ((repeat first | exact fun _ s => s | apply en_keep | apply en_drop | apply en_app) <;> fail) | ((repeat first | exact en_refl | (apply en_blk; focus ((repeat' first | exact Pick.here | apply Pick.skip | apply Pick.app); done); focus rfl) | (apply en_own; focus ((repeat' first | exact Pick.here | apply Pick.skip | apply Pick.app); done); focus rfl) | (apply en_pick; focus ((repeat' first | exact Pick.here | apply Pick.skip | apply Pick.app); done)) | apply en_drop | apply en_app) <;> fail)), fun _ s => s, ?_⟩
    refine RS_e (RE_eff rfl rfl rfl (eff_call rfl (Ctr.pick (by repeat' first | exact Pick.here | apply Pick.skip | apply Pick.app) (Ctr.pre (en_pick (.skip .here) en_refl) (Insert_ctr A8 _ c8 b14 (putK v l) l v _ rfl (by omega) hk)))) ?_); rintro _ _ ⟨A15, c15, rfl, hn15, rfl⟩; refine ⟨_, (by first | ((repeat first | exact fun _ s => s | apply en_keep | apply en_drop | apply en_app) <;> fail) | ((repeat first | exact en_refl | (apply en_blk; focus ((repeat' first | exact Pick.here | apply Pick.skip | apply Pick.app); done); focus rfl) | (apply en_own; focus ((repeat' first | exact Pick.here | apply Pick.skip | apply Pick.app); done); focus rfl) | (apply en_pick; focus ((repeat' first | exact Pick.here | apply Pick.skip | apply Pick.app); done)) | apply en_drop | apply en_app) <;> fail)), fun _ s => s, ?_⟩
    refine RS_m retB_noPanic rfl rfl rfl rfl (ev_assign rfl) ?_
    refine RS_nil ?_
  case' x1_0 =>
    refine RE_eff rfl rfl rfl (eff_call rfl (Clone_ctr A n c l _ (by repeat' first | exact Rc.blk rfl | assumption | apply Rd.skip | apply Rd.app) (by omega))) ?_; rintro _ _ ⟨A8, c8, rfl, hn8, rfl⟩; refine ⟨_, (by first | ((repeat first | exact fun _ s => s | apply en_keep | apply en_drop | apply en_app) <;> fail) | ((repeat first | exact en_refl | (apply en_blk; focus ((repeat' first | exact Pick.here | apply Pick.skip | apply Pick.app); done); focus rfl) | (apply en_own; focus ((repeat' first | exact Pick.here | apply Pick.skip | apply Pick.app); done); focus rfl) | (apply en_pick; focus ((repeat' first | exact Pick.here | apply Pick.skip | apply Pick.app); done)) | apply en_drop | apply en_app) <;> fail)), fun _ s => s, ?_⟩
    refine RS_br ?x2_0 ?x2_1
    case' x2_1 =>
      refine RE_eff rfl rfl rfl (eff_buildSlice1 (by rfl) rfl rfl) ?_; rintro _ _ ⟨b14, rfl, rfl⟩; refine ⟨_, (by first | ((repeat first | exact fun _ s => s | apply en_keep | apply en_drop | apply en_app) <;> fail) | ((repeat first | exact en_refl | (apply en_blk; focus ((repeat' first | exact Pick.here | apply Pick.skip | apply Pick.app); done); focus rfl) | (apply en_own; focus ((repeat' first | exact Pick.here | apply Pick.skip | apply Pick.app); done); focus rfl) | (apply en_pick; focus ((repeat' first | exact Pick.here | apply Pick.skip | apply Pick.app); done)) | apply en_drop | apply en_app) <;> fail)), fun _ s => s, ?_⟩
      refine RS_e (RE_eff rfl rfl rfl (eff_call rfl (behind_ctr A n c l v _ (by repeat' first | exact Rc.blk rfl | assumption | apply Rd.skip | apply Rd.app) (by omega) ho)) ?_); rintro _ _ ⟨rfl, rfl⟩; refine ⟨_, (by first | ((repeat first | exact fun _ s => s | apply en_keep | apply en_drop | apply en_app) <;> fail) | ((repeat first | exact en_refl | (apply en_blk; focus ((repeat' first | exact Pick.here | apply Pick.skip | apply Pick.app); done); focus rfl) | (apply en_own; focus ((repeat' first | exact Pick.here | apply Pick.skip | apply Pick.app); done); focus rfl) | (apply en_pick; focus ((repeat' first | exact Pick.here | apply Pick.skip | apply Pick.app); done)) | apply en_drop | apply en_app) <;> fail)), fun _ s => s, ?_⟩
      refine RS_e (RE_eff rfl rfl rfl (eff_call rfl (Ctr.pick (by repeat' first | exact Pick.here | apply Pick.skip | apply Pick.app) (Ctr.pre (en_pick (.skip .here) en_refl) (Insert_ctr A8 _ c8 b14 (putK v l) l v _ rfl (by omega) hk)))) ?_); rintro _ _ ⟨A15, c15, rfl, hn15, rfl⟩; refine ⟨_, (by first | ((repeat first | exact fun _ s => s | apply en_keep | apply en_drop | apply en_app) <;> fail) | ((repeat first | exact en_refl | (apply en_blk; focus ((repeat' first | exact Pick.here | apply Pick.skip | apply Pick.app); done); focus rfl) | (apply en_own; focus ((repeat' first | exact Pick.here | apply Pick.skip | apply Pick.app); done); focus rfl) | (apply en_pick; focus ((repeat' first | exact Pick.here | apply Pick.skip | apply Pick.app); done)) | apply en_drop | apply en_app) <;> fail)), fun _ s => s, ?_⟩
      refine RS_m retB_noPanic rfl rfl rfl rfl (ev_assign rfl) ?_
      refine RS_nil ?_
    case' x2_0 =>
      refine RE_eff rfl rfl rfl (eff_call rfl (behind_ctr A n c l v _ (by repeat' first | exact Rc.blk rfl | assumption | apply Rd.skip | apply Rd.app) (by omega) ho)) ?_; rintro _ _ ⟨rfl, rfl⟩; refine ⟨_, (by first | ((repeat first | exact fun _ s => s | apply en_keep | apply en_drop | apply en_app) <;> fail) | ((repeat first | exact en_refl | (apply en_blk; focus ((repeat' first | exact Pick.here | apply Pick.skip | apply Pick.app); done); focus rfl) | (apply en_own; focus ((repeat' first | exact Pick.here | apply Pick.skip | apply Pick.app); done); focus rfl) | (apply en_pick; focus ((repeat' first | exact Pick.here | apply Pick.skip | apply Pick.app); done)) | apply en_drop | apply en_app) <;> fail)), fun _ s => s, ?_⟩
      refine RS_e (RE_eff rfl rfl rfl (eff_buildSlice1 (by rfl) rfl rfl) ?_); rintro _ _ ⟨b14, rfl, rfl⟩; refine ⟨_, (by first | ((repeat first | exact fun _ s => s | apply en_keep | apply en_drop | apply en_app) <;> fail) | ((repeat first | exact en_refl | (apply en_blk; focus ((repeat' first | exact Pick.here | apply Pick.skip | apply Pick.app); done); focus rfl) | (apply en_own; focus ((repeat' first | exact Pick.here | apply Pick.skip | apply Pick.app); done); focus rfl) | (apply en_pick; focus ((repeat' first | exact Pick.here | apply Pick.skip | apply Pick.app); done)) | apply en_drop | apply en_app) <;> fail)), fun _ s => s, ?_⟩
      refine RS_e (RE_eff rfl rfl rfl (eff_call rfl (Ctr.pick (by repeat' first | exact Pick.here | apply Pick.skip | apply Pick.app) (Ctr.pre (en_pick (.skip .here) en_refl) (Insert_ctr A8 _ c8 b14 (putK v l) l v _ rfl (by omega) hk)))) ?_); rintro _ _ ⟨A15, c15, rfl, hn15, rfl⟩; refine ⟨_, (by first | ((repeat first | exact fun _ s => s | apply en_keep | apply en_drop | apply en_app) <;> fail) | ((repeat first | exact en_refl | (apply en_blk; focus ((repeat' first | exact Pick.here | apply Pick.skip | apply Pick.app); done); focus rfl) | (apply en_own; focus ((repeat' first | exact Pick.here | apply Pick.skip | apply Pick.app); done); focus rfl) | (apply en_pick; focus ((repeat' first | exact Pick.here | apply Pick.skip | apply Pick.app); done)) | apply en_drop | apply en_app) <;> fail)), fun _ s => s, ?_⟩
      refine RS_m retB_noPanic rfl rfl rfl rfl (ev_assign rfl) ?_
      refine RS_nil ?_
  all_goals
    (repeat first | refine G_seq ?_ | refine G_skip ?_ | refine G_endblk ?_ | refine G_block ?_ | refine G_exit rfl ?_)
    exact G_ret (L' := own 29 3 A15 (l.take (putK v l) ++ [v] ++ l.drop (putK v l)).length c15 (flat (l.take (putK v l) ++ [v] ++ l.drop (putK v l))) :: L) rfl (.tmp rfl .nil) (by (repeat first | exact en_refl | (apply en_blk; focus ((repeat' first | exact Pick.here | apply Pick.skip | apply Pick.app); done); focus rfl) | (apply en_own; focus ((repeat' first | exact Pick.here | apply Pick.skip | apply Pick.app); done); focus rfl) | (apply en_pick; focus ((repeat' first | exact Pick.here | apply Pick.skip | apply Pick.app); done)) | apply en_drop | apply en_app) <;> fail) ⟨A15, c15, rfl, hn15, rfl⟩
end Go.Proofs.YtalcanejhniepaaGreat
/- Boxes, windows and intervals: the walks of the small functions (for the laws of plan). -/
namespace Go.Proofs.YtalcanejhniepaaGreat
attribute [local irreducible] sat
set_option linter.unusedVariables false
set_option linter.unusedSimpArgs false
set_option maxRecDepth 100000

def good (n : Int) : Bool := decide (-1099511627776 ≤ n) && decide (n ≤ 1099511627776)
def wthn (n lo hi : Int) : Bool := decide (lo ≤ n ∧ n ≤ hi)

theorem Good_ctr (n : Int) (L : List HP) : Ctr Tryz.prog 97 #[.int .i64 n] L fun v L' => v = .bool (good n) ∧ L' = L := by
  refine Ctr_of (fn := Tryz.f97) (n := 9) Tryz.func97 rfl rfl rfl ?_
  intro g F
  (repeat first | refine G_seq ?_ | refine G_skip ?_ | refine G_endblk ?_ | refine G_block ?_ | refine G_exit rfl ?_)
  refine G_region ?_
  refine GO_q rfl rfl (ev_assign rfl) ?_
  refine GO_nil ?_
  (repeat first | refine G_seq ?_ | refine G_skip ?_ | refine G_endblk ?_ | refine G_block ?_ | refine G_exit rfl ?_)
  refine G_region ?_
  refine GO_q rfl rfl (ev_move rfl) ?_
  refine GO_q rfl rfl (ev_geq rfl rfl) ?_
  refine GO_q rfl rfl (ev_move rfl) ?_
  refine GO_guard rfl rfl rfl (fun hq3 => ?y3) (fun hq3 => ?n3)
  case' n3 =>
    have hp3 := hq3
    try simp only [decide_eq_true_eq, decide_eq_false_iff_not, Bool.not_true, Bool.not_false] at hp3
    refine GO_no rfl rfl rfl hq3 ?_
    refine GO_q rfl rfl (ev_pick_f rfl hq3 rfl) ?_
    refine GO_q rfl rfl (ev_assign rfl) ?_
    refine GO_nil ?_
  case' y3 =>
    have hp3 := hq3
    try simp only [decide_eq_true_eq, decide_eq_false_iff_not, Bool.not_true, Bool.not_false] at hp3
    refine GO_q rfl rfl (ev_move rfl) ?_
    refine GO_yes rfl rfl rfl hq3 ?_
    refine GO_q rfl rfl (ev_leq rfl rfl) ?_
    refine GO_q rfl rfl (ev_pick_t rfl hq3 rfl) ?_
    refine GO_q rfl rfl (ev_assign rfl) ?_
    refine GO_nil ?_
  · (repeat first | refine G_seq ?_ | refine G_skip ?_ | refine G_endblk ?_ | refine G_block ?_ | refine G_exit rfl ?_)
    refine G_ret rfl (.tmp rfl .nil) (by (repeat first | exact fun _ s => s | apply en_keep | apply en_drop | apply en_app) <;> fail) ⟨by simp [retv, good]; omega, rfl⟩
  · (repeat first | refine G_seq ?_ | refine G_skip ?_ | refine G_endblk ?_ | refine G_block ?_ | refine G_exit rfl ?_)
    refine G_ret rfl (.tmp rfl .nil) (by (repeat first | exact fun _ s => s | apply en_keep | apply en_drop | apply en_app) <;> fail) ⟨by simp [retv, good]; omega, rfl⟩
theorem Coord_ctr (n : Int) (L : List HP) : Ctr Tryz.prog 121 #[.int .i64 n] L fun v L' => v = .bool (good n) ∧ L' = L := by
  refine Ctr_of (fn := Tryz.f121) (n := 9) Tryz.func121 rfl rfl rfl ?_
  intro g F
  (repeat first | refine G_seq ?_ | refine G_skip ?_ | refine G_endblk ?_ | refine G_block ?_ | refine G_exit rfl ?_)
  refine G_region ?_
  refine GO_q rfl rfl (ev_assign rfl) ?_
  refine GO_nil ?_
  (repeat first | refine G_seq ?_ | refine G_skip ?_ | refine G_endblk ?_ | refine G_block ?_ | refine G_exit rfl ?_)
  refine G_region ?_
  refine GO_q rfl rfl (ev_move rfl) ?_
  refine GO_q rfl rfl (ev_geq rfl rfl) ?_
  refine GO_q rfl rfl (ev_move rfl) ?_
  refine GO_guard rfl rfl rfl (fun hq3 => ?y4) (fun hq3 => ?n4)
  case' n4 =>
    have hp3 := hq3
    try simp only [decide_eq_true_eq, decide_eq_false_iff_not, Bool.not_true, Bool.not_false] at hp3
    refine GO_no rfl rfl rfl hq3 ?_
    refine GO_q rfl rfl (ev_pick_f rfl hq3 rfl) ?_
    refine GO_q rfl rfl (ev_assign rfl) ?_
    refine GO_nil ?_
  case' y4 =>
    have hp3 := hq3
    try simp only [decide_eq_true_eq, decide_eq_false_iff_not, Bool.not_true, Bool.not_false] at hp3
    refine GO_q rfl rfl (ev_move rfl) ?_
    refine GO_yes rfl rfl rfl hq3 ?_
    refine GO_q rfl rfl (ev_leq rfl rfl) ?_
    refine GO_q rfl rfl (ev_pick_t rfl hq3 rfl) ?_
    refine GO_q rfl rfl (ev_assign rfl) ?_
    refine GO_nil ?_
  · (repeat first | refine G_seq ?_ | refine G_skip ?_ | refine G_endblk ?_ | refine G_block ?_ | refine G_exit rfl ?_)
    refine G_ret rfl (.tmp rfl .nil) (by (repeat first | exact fun _ s => s | apply en_keep | apply en_drop | apply en_app) <;> fail) ⟨by simp [retv, good]; omega, rfl⟩
  · (repeat first | refine G_seq ?_ | refine G_skip ?_ | refine G_endblk ?_ | refine G_block ?_ | refine G_exit rfl ?_)
    refine G_ret rfl (.tmp rfl .nil) (by (repeat first | exact fun _ s => s | apply en_keep | apply en_drop | apply en_app) <;> fail) ⟨by simp [retv, good]; omega, rfl⟩
theorem within_ctr (n lo hi : Int) (L : List HP) : Ctr Tryz.prog 105 #[.int .i64 n, .int .i64 lo, .int .i64 hi] L fun v L' => v = .bool (wthn n lo hi) ∧ L' = L := by
  refine Ctr_of (fn := Tryz.f105) (n := 15) Tryz.func105 rfl rfl rfl ?_
  intro g F
  (repeat first | refine G_seq ?_ | refine G_skip ?_ | refine G_endblk ?_ | refine G_block ?_ | refine G_exit rfl ?_)
  refine G_region ?_
  refine GO_q rfl rfl (ev_assign rfl) ?_
  refine GO_nil ?_
  (repeat first | refine G_seq ?_ | refine G_skip ?_ | refine G_endblk ?_ | refine G_block ?_ | refine G_exit rfl ?_)
  refine G_region ?_
  refine GO_q rfl rfl (ev_move rfl) ?_
  refine GO_q rfl rfl (ev_move rfl) ?_
  refine GO_q rfl rfl (ev_leq rfl rfl) ?_
  refine GO_q rfl rfl (ev_move rfl) ?_
  refine GO_guard rfl rfl rfl (fun hq4 => ?y5) (fun hq4 => ?n5)
  case' n5 =>
    have hp4 := hq4
    try simp only [decide_eq_true_eq, decide_eq_false_iff_not, Bool.not_true, Bool.not_false] at hp4
    refine GO_no rfl rfl rfl hq4 ?_
    refine GO_no rfl rfl rfl hq4 ?_
    refine GO_q rfl rfl (ev_pick_f rfl hq4 rfl) ?_
    refine GO_q rfl rfl (ev_assign rfl) ?_
    refine GO_nil ?_
  case' y5 =>
    have hp4 := hq4
    try simp only [decide_eq_true_eq, decide_eq_false_iff_not, Bool.not_true, Bool.not_false] at hp4
    refine GO_q rfl rfl (ev_move rfl) ?_
    refine GO_yes rfl rfl rfl hq4 ?_
    refine GO_q rfl rfl (ev_move rfl) ?_
    refine GO_yes rfl rfl rfl hq4 ?_
    refine GO_q rfl rfl (ev_leq rfl rfl) ?_
    refine GO_q rfl rfl (ev_pick_t rfl hq4 rfl) ?_
    refine GO_q rfl rfl (ev_assign rfl) ?_
    refine GO_nil ?_
  · (repeat first | refine G_seq ?_ | refine G_skip ?_ | refine G_endblk ?_ | refine G_block ?_ | refine G_exit rfl ?_)
    refine G_ret rfl (.tmp rfl .nil) (by (repeat first | exact fun _ s => s | apply en_keep | apply en_drop | apply en_app) <;> fail) ⟨by simp [retv, wthn]; omega, rfl⟩
  · (repeat first | refine G_seq ?_ | refine G_skip ?_ | refine G_endblk ?_ | refine G_block ?_ | refine G_exit rfl ?_)
    refine G_ret rfl (.tmp rfl .nil) (by (repeat first | exact fun _ s => s | apply en_keep | apply en_drop | apply en_app) <;> fail) ⟨by simp [retv, wthn]; omega, rfl⟩
/-- A box: its four numbers. -/
structure Bx where
  x1 : Int
  x2 : Int
  y1 : Int
  y2 : Int
/-- A window: its three. -/
structure Wn where
  x1 : Int
  x2 : Int
  y : Int
/-- An interval with its number. -/
structure Sp where
  id : Int
  lo : Int
  hi : Int
def Bx.has (b : Bx) (x y : Int) : Bool := wthn x b.x1 b.x2 && wthn y b.y1 b.y2
def Wn.sees (w : Wn) (x y : Int) : Bool := wthn x w.x1 w.x2 && decide (w.y ≤ y)
def Sp.over (s t : Sp) : Bool := decide (s.lo ≤ s.hi ∧ t.lo ≤ t.hi ∧ s.lo ≤ t.hi ∧ t.lo ≤ s.hi)

theorem Sees_ctr (w : Wn) (p : Pt) (L : List HP) : Ctr Tryz.prog 79 #[.agg #[.int .i64 w.x1, .int .i64 w.x2, .int .i64 w.y], .agg #[.int .i64 p.id, .int .i64 p.x, .int .i64 p.y]] L fun v L' => v = .bool (w.sees p.x p.y) ∧ L' = L := by
  refine Ctr_of (fn := Tryz.f79) (n := 19) Tryz.func79 rfl rfl rfl ?_
  intro g F
  (repeat first | refine G_seq ?_ | refine G_skip ?_ | refine G_endblk ?_ | refine G_block ?_ | refine G_exit rfl ?_)
  refine G_region ?_
  refine GO_eff rfl rfl (eff_box rfl) ?_; rintro _ _ ⟨b2, rfl, rfl⟩
  refine GO_eff rfl rfl (eff_box rfl) ?_; rintro _ _ ⟨b3, rfl, rfl⟩
  refine GO_q rfl rfl (ev_assign rfl) ?_
  refine GO_nil ?_
  (repeat first | refine G_seq ?_ | refine G_skip ?_ | refine G_endblk ?_ | refine G_block ?_ | refine G_exit rfl ?_)
  refine G_region ?_
  refine GO_q rfl rfl (ev_fieldAddr rfl) ?_
  refine GO_q rfl rfl (ev_load rfl (by repeat' first | exact Ld.blk rfl | assumption | apply Ld.skip | apply Ld.app)) ?_
  refine GO_q rfl rfl (ev_fieldAddr rfl) ?_
  refine GO_q rfl rfl (ev_load rfl (by repeat' first | exact Ld.blk rfl | assumption | apply Ld.skip | apply Ld.app)) ?_
  refine GO_q rfl rfl (ev_fieldAddr rfl) ?_
  refine GO_q rfl rfl (ev_load rfl (by repeat' first | exact Ld.blk rfl | assumption | apply Ld.skip | apply Ld.app)) ?_
  refine GO_eff rfl rfl (eff_call rfl (within_ctr p.x w.x1 w.x2 _)) ?_; rintro _ _ ⟨rfl, rfl⟩
  refine GO_q rfl rfl (ev_move rfl) ?_
  refine GO_guard rfl rfl rfl (fun hq8 => ?y6) (fun hq8 => ?n6)
  case' n6 =>
    have hp8 := hq8
    try simp only [decide_eq_true_eq, decide_eq_false_iff_not, Bool.not_true, Bool.not_false] at hp8
    refine GO_no rfl rfl rfl hq8 ?_
    refine GO_no rfl rfl rfl hq8 ?_
    refine GO_no rfl rfl rfl hq8 ?_
    refine GO_no rfl rfl rfl hq8 ?_
    refine GO_q rfl rfl (ev_pick_f rfl hq8 rfl) ?_
    refine GO_q rfl rfl (ev_assign rfl) ?_
    refine GO_nil ?_
  case' y6 =>
    have hp8 := hq8
    try simp only [decide_eq_true_eq, decide_eq_false_iff_not, Bool.not_true, Bool.not_false] at hp8
    refine GO_q rfl rfl (ev_fieldAddr rfl) ?_
    refine GO_yes rfl rfl rfl hq8 ?_
    refine GO_q rfl rfl (ev_load rfl (by repeat' first | exact Ld.blk rfl | assumption | apply Ld.skip | apply Ld.app)) ?_
    refine GO_yes rfl rfl rfl hq8 ?_
    refine GO_q rfl rfl (ev_fieldAddr rfl) ?_
    refine GO_yes rfl rfl rfl hq8 ?_
    refine GO_q rfl rfl (ev_load rfl (by repeat' first | exact Ld.blk rfl | assumption | apply Ld.skip | apply Ld.app)) ?_
    refine GO_yes rfl rfl rfl hq8 ?_
    refine GO_q rfl rfl (ev_geq rfl rfl) ?_
    refine GO_q rfl rfl (ev_pick_t rfl hq8 rfl) ?_
    refine GO_q rfl rfl (ev_assign rfl) ?_
    refine GO_nil ?_
  · (repeat first | refine G_seq ?_ | refine G_skip ?_ | refine G_endblk ?_ | refine G_block ?_ | refine G_exit rfl ?_)
    refine G_ret rfl (.tmp rfl .nil) (by (repeat first | exact fun _ s => s | apply en_keep | apply en_drop | apply en_app) <;> fail) ⟨by simp_all [retv, Wn.sees, wthn] <;> (try (intros; omega)), rfl⟩
  · (repeat first | refine G_seq ?_ | refine G_skip ?_ | refine G_endblk ?_ | refine G_block ?_ | refine G_exit rfl ?_)
    refine G_ret rfl (.tmp rfl .nil) (by (repeat first | exact fun _ s => s | apply en_keep | apply en_drop | apply en_app) <;> fail) ⟨by simp_all [retv, Wn.sees, wthn] <;> (try (intros; omega)), rfl⟩
theorem RSees_ctr (w : Wn) (x y : Int) (L : List HP) : Ctr Tryz.prog 35 #[.agg #[.int .i64 w.x1, .int .i64 w.x2, .int .i64 w.y], .int .i64 x, .int .i64 y] L fun v L' => v = .bool (w.sees x y) ∧ L' = L := by
  refine Ctr_of (fn := Tryz.f35) (n := 23) Tryz.func35 rfl rfl rfl ?_
  intro g F
  (repeat first | refine G_seq ?_ | refine G_skip ?_ | refine G_endblk ?_ | refine G_block ?_ | refine G_exit rfl ?_)
  refine G_region ?_
  refine GO_eff rfl rfl (eff_box rfl) ?_; rintro _ _ ⟨b3, rfl, rfl⟩
  refine GO_q rfl rfl (ev_assign rfl) ?_
  refine GO_nil ?_
  (repeat first | refine G_seq ?_ | refine G_skip ?_ | refine G_endblk ?_ | refine G_block ?_ | refine G_exit rfl ?_)
  refine G_region ?_
  refine GO_q rfl rfl (ev_move rfl) ?_
  refine GO_q rfl rfl (ev_fieldAddr rfl) ?_
  refine GO_q rfl rfl (ev_load rfl (by repeat' first | exact Ld.blk rfl | assumption | apply Ld.skip | apply Ld.app)) ?_
  refine GO_q rfl rfl (ev_geq rfl rfl) ?_
  refine GO_q rfl rfl (ev_move rfl) ?_
  refine GO_guard rfl rfl rfl (fun hq5 => ?y7) (fun hq5 => ?n7)
  case' n7 =>
    have hp5 := hq5
    try simp only [decide_eq_true_eq, decide_eq_false_iff_not, Bool.not_true, Bool.not_false] at hp5
    refine GO_no rfl rfl rfl hq5 ?_
    refine GO_no rfl rfl rfl hq5 ?_
    refine GO_no rfl rfl rfl hq5 ?_
    refine GO_q rfl rfl (ev_pick_f rfl hq5 rfl) ?_
    refine GO_q rfl rfl (ev_move rfl) ?_
    refine GO_no rfl rfl rfl rfl ?_
    refine GO_no rfl rfl rfl rfl ?_
    refine GO_no rfl rfl rfl rfl ?_
    refine GO_no rfl rfl rfl rfl ?_
    refine GO_q rfl rfl (ev_pick_f rfl rfl rfl) ?_
    refine GO_q rfl rfl (ev_assign rfl) ?_
    refine GO_nil ?_
  case' y7 =>
    have hp5 := hq5
    try simp only [decide_eq_true_eq, decide_eq_false_iff_not, Bool.not_true, Bool.not_false] at hp5
    refine GO_q rfl rfl (ev_move rfl) ?_
    refine GO_yes rfl rfl rfl hq5 ?_
    refine GO_q rfl rfl (ev_fieldAddr rfl) ?_
    refine GO_yes rfl rfl rfl hq5 ?_
    refine GO_q rfl rfl (ev_load rfl (by repeat' first | exact Ld.blk rfl | assumption | apply Ld.skip | apply Ld.app)) ?_
    refine GO_yes rfl rfl rfl hq5 ?_
    refine GO_q rfl rfl (ev_leq rfl rfl) ?_
    refine GO_q rfl rfl (ev_pick_t rfl hq5 rfl) ?_
    refine GO_q rfl rfl (ev_move rfl) ?_
    refine GO_guard rfl rfl rfl (fun hq11 => ?y8) (fun hq11 => ?n8)
    case' n8 =>
      have hp11 := hq11
      try simp only [decide_eq_true_eq, decide_eq_false_iff_not, Bool.not_true, Bool.not_false] at hp11
      refine GO_no rfl rfl rfl hq11 ?_
      refine GO_no rfl rfl rfl hq11 ?_
      refine GO_no rfl rfl rfl hq11 ?_
      refine GO_q rfl rfl (ev_pick_f rfl hq11 rfl) ?_
      refine GO_q rfl rfl (ev_assign rfl) ?_
      refine GO_nil ?_
    case' y8 =>
      have hp11 := hq11
      try simp only [decide_eq_true_eq, decide_eq_false_iff_not, Bool.not_true, Bool.not_false] at hp11
      refine GO_q rfl rfl (ev_move rfl) ?_
      refine GO_yes rfl rfl rfl hq11 ?_
      refine GO_q rfl rfl (ev_fieldAddr rfl) ?_
      refine GO_yes rfl rfl rfl hq11 ?_
      refine GO_q rfl rfl (ev_load rfl (by repeat' first | exact Ld.blk rfl | assumption | apply Ld.skip | apply Ld.app)) ?_
      refine GO_yes rfl rfl rfl hq11 ?_
      refine GO_q rfl rfl (ev_geq rfl rfl) ?_
      refine GO_q rfl rfl (ev_pick_t rfl hq11 rfl) ?_
      refine GO_q rfl rfl (ev_assign rfl) ?_
      refine GO_nil ?_
  all_goals
    (repeat first | refine G_seq ?_ | refine G_skip ?_ | refine G_endblk ?_ | refine G_block ?_ | refine G_exit rfl ?_)
    refine G_ret rfl (.tmp rfl .nil) (by (repeat first | exact fun _ s => s | apply en_keep | apply en_drop | apply en_app) <;> fail) ⟨by simp_all [retv, Wn.sees, wthn] <;> (try (intros; omega)), rfl⟩

/-- The judgement of a box: 0, 2 (a number that is no coordinate), 3 (out of order). -/
def Bx.chk (b : Bx) : Int :=
  if good b.x1 && good b.x2 && good b.y1 && good b.y2 then (if b.x1 > b.x2 ∨ b.y1 > b.y2 then 3 else 0) else 2
def Wn.bx (w : Wn) : Bx := ⟨w.x1, w.x2, w.y, 1099511627776⟩
end Go.Proofs.YtalcanejhniepaaGreat
/- Trees that are heaps by Y: what lies in memory, and the small functions. -/
namespace Go.Proofs.YtalcanejhniepaaGreat
attribute [local irreducible] sat
set_option linter.unusedVariables false
set_option linter.unusedSimpArgs false
set_option maxRecDepth 100000

def goodId (n : Int) : Bool := decide (1 ≤ n) && decide (n ≤ 2147483647)
def goodP (p : Pt) : Bool := goodId p.id && (good p.x && good p.y)
theorem kid_id_ctr (n : Int) (L : List HP) : Ctr Tryz.prog 70 #[.int .i64 n] L fun v L' => v = .bool (goodId n) ∧ L' = L := by
  refine Ctr_of (fn := Tryz.f70) (n := 9) Tryz.func70 rfl rfl rfl ?_
  intro g F
  (repeat first | refine G_seq ?_ | refine G_skip ?_ | refine G_endblk ?_ | refine G_block ?_ | refine G_exit rfl ?_)
  refine G_region ?_
  refine GO_q rfl rfl (ev_assign rfl) ?_
  refine GO_nil ?_
  (repeat first | refine G_seq ?_ | refine G_skip ?_ | refine G_endblk ?_ | refine G_block ?_ | refine G_exit rfl ?_)
  refine G_region ?_
  refine GO_q rfl rfl (ev_move rfl) ?_
  refine GO_q rfl rfl (ev_geq rfl rfl) ?_
  refine GO_q rfl rfl (ev_move rfl) ?_
  refine GO_guard rfl rfl rfl (fun hc12 => ?y12) (fun hc12 => ?n12)
  case' n12 =>
    have hd12 := hc12
    try simp only [decide_eq_true_eq, decide_eq_false_iff_not, Bool.not_true, Bool.not_false, Bool.not_eq_true', Bool.not_eq_false'] at hd12
    refine GO_no rfl rfl rfl hc12 ?_
    refine GO_q rfl rfl (ev_pick_f rfl hc12 rfl) ?_
    refine GO_q rfl rfl (ev_assign rfl) ?_
    refine GO_nil ?_
    (repeat first | refine G_seq ?_ | refine G_skip ?_ | refine G_endblk ?_ | refine G_block ?_ | refine G_exit rfl ?_)
    refine G_ret rfl (.tmp rfl .nil) (by (repeat first | exact fun _ s => s | apply en_keep | apply en_drop | apply en_app) <;> fail) ⟨by simp_all [retv, goodId] <;> (intros; omega), rfl⟩
  case' y12 =>
    have hd12 := hc12
    try simp only [decide_eq_true_eq, decide_eq_false_iff_not, Bool.not_true, Bool.not_false, Bool.not_eq_true', Bool.not_eq_false'] at hd12
    refine GO_q rfl rfl (ev_move rfl) ?_
    refine GO_yes rfl rfl rfl hc12 ?_
    refine GO_q rfl rfl (ev_leq rfl rfl) ?_
    refine GO_q rfl rfl (ev_pick_t rfl hc12 rfl) ?_
    refine GO_q rfl rfl (ev_assign rfl) ?_
    refine GO_nil ?_
    (repeat first | refine G_seq ?_ | refine G_skip ?_ | refine G_endblk ?_ | refine G_block ?_ | refine G_exit rfl ?_)
    refine G_ret rfl (.tmp rfl .nil) (by (repeat first | exact fun _ s => s | apply en_keep | apply en_drop | apply en_app) <;> fail) ⟨by simp_all [retv, goodId] <;> (intros; omega), rfl⟩
theorem lies_ctr (p : Pt) (L : List HP) : Ctr Tryz.prog 71 #[p.v] L fun v L' => v = .bool (good p.x && good p.y) ∧ L' = L := by
  refine Ctr_of (fn := Tryz.f71) (n := 11) Tryz.func71 rfl rfl rfl ?_
  intro g F
  (repeat first | refine G_seq ?_ | refine G_skip ?_ | refine G_endblk ?_ | refine G_block ?_ | refine G_exit rfl ?_)
  refine G_region ?_
  refine GO_eff rfl rfl (eff_box rfl) ?_; rintro _ _ ⟨b1, rfl, rfl⟩
  refine GO_q rfl rfl (ev_assign rfl) ?_
  refine GO_nil ?_
  (repeat first | refine G_seq ?_ | refine G_skip ?_ | refine G_endblk ?_ | refine G_block ?_ | refine G_exit rfl ?_)
  refine G_region ?_
  refine GO_q rfl rfl (ev_fieldAddr rfl) ?_
  refine GO_q rfl rfl (ev_load rfl (by repeat' first | exact Ld.blk rfl | assumption | apply Ld.skip | apply Ld.app)) ?_
  refine GO_eff rfl rfl (eff_call rfl (Good_ctr _ _)) ?_; rintro _ _ ⟨rfl, rfl⟩
  refine GO_q rfl rfl (ev_move rfl) ?_
  refine GO_guard rfl rfl rfl (fun hc22 => ?y22) (fun hc22 => ?n22)
  case' n22 =>
    have hd22 := hc22
    try simp only [decide_eq_true_eq, decide_eq_false_iff_not, Bool.not_true, Bool.not_false, Bool.not_eq_true', Bool.not_eq_false'] at hd22
    refine GO_no rfl rfl rfl hc22 ?_
    refine GO_no rfl rfl rfl hc22 ?_
    refine GO_q rfl rfl (ev_pick_f rfl hc22 rfl) ?_
    refine GO_q rfl rfl (ev_assign rfl) ?_
    refine GO_nil ?_
    (repeat first | refine G_seq ?_ | refine G_skip ?_ | refine G_endblk ?_ | refine G_block ?_ | refine G_exit rfl ?_)
    refine G_ret rfl (.tmp rfl .nil) (by (repeat first | exact fun _ s => s | apply en_keep | apply en_drop | apply en_app) <;> fail) ⟨by simp_all [retv], rfl⟩
  case' y22 =>
    have hd22 := hc22
    try simp only [decide_eq_true_eq, decide_eq_false_iff_not, Bool.not_true, Bool.not_false, Bool.not_eq_true', Bool.not_eq_false'] at hd22
    refine GO_q rfl rfl (ev_fieldAddr rfl) ?_
    refine GO_yes rfl rfl rfl hc22 ?_
    refine GO_q rfl rfl (ev_load rfl (by repeat' first | exact Ld.blk rfl | assumption | apply Ld.skip | apply Ld.app)) ?_
    refine GO_yes rfl rfl rfl hc22 ?_
    refine GO_eff rfl rfl (eff_call rfl (Good_ctr _ _)) ?_; rintro _ _ ⟨rfl, rfl⟩
    refine GO_q rfl rfl (ev_pick_t rfl hc22 rfl) ?_
    refine GO_q rfl rfl (ev_assign rfl) ?_
    refine GO_nil ?_
    (repeat first | refine G_seq ?_ | refine G_skip ?_ | refine G_endblk ?_ | refine G_block ?_ | refine G_exit rfl ?_)
    refine G_ret rfl (.tmp rfl .nil) (by (repeat first | exact fun _ s => s | apply en_keep | apply en_drop | apply en_app) <;> fail) ⟨by simp_all [retv], rfl⟩
theorem KGood_ctr (p : Pt) (L : List HP) : Ctr Tryz.prog 50 #[p.v] L fun v L' => v = .bool (goodP p) ∧ L' = L := by
  refine Ctr_of (fn := Tryz.f50) (n := 10) Tryz.func50 rfl rfl rfl ?_
  intro g F
  (repeat first | refine G_seq ?_ | refine G_skip ?_ | refine G_endblk ?_ | refine G_block ?_ | refine G_exit rfl ?_)
  refine G_region ?_
  refine GO_eff rfl rfl (eff_box rfl) ?_; rintro _ _ ⟨b1, rfl, rfl⟩
  refine GO_q rfl rfl (ev_assign rfl) ?_
  refine GO_nil ?_
  (repeat first | refine G_seq ?_ | refine G_skip ?_ | refine G_endblk ?_ | refine G_block ?_ | refine G_exit rfl ?_)
  refine G_region ?_
  refine GO_q rfl rfl (ev_fieldAddr rfl) ?_
  refine GO_q rfl rfl (ev_load rfl (by repeat' first | exact Ld.blk rfl | assumption | apply Ld.skip | apply Ld.app)) ?_
  refine GO_eff rfl rfl (eff_call rfl (kid_id_ctr _ _)) ?_; rintro _ _ ⟨rfl, rfl⟩
  refine GO_q rfl rfl (ev_move rfl) ?_
  refine GO_guard rfl rfl rfl (fun hc35 => ?y35) (fun hc35 => ?n35)
  case' n35 =>
    have hd35 := hc35
    try simp only [decide_eq_true_eq, decide_eq_false_iff_not, Bool.not_true, Bool.not_false, Bool.not_eq_true', Bool.not_eq_false'] at hd35
    refine GO_no rfl rfl rfl hc35 ?_
    refine GO_q rfl rfl (ev_pick_f rfl hc35 rfl) ?_
    refine GO_q rfl rfl (ev_assign rfl) ?_
    refine GO_nil ?_
    (repeat first | refine G_seq ?_ | refine G_skip ?_ | refine G_endblk ?_ | refine G_block ?_ | refine G_exit rfl ?_)
    refine G_ret rfl (.tmp rfl .nil) (by (repeat first | exact fun _ s => s | apply en_keep | apply en_drop | apply en_app) <;> fail) ⟨by simp_all [retv, goodP], rfl⟩
  case' y35 =>
    have hd35 := hc35
    try simp only [decide_eq_true_eq, decide_eq_false_iff_not, Bool.not_true, Bool.not_false, Bool.not_eq_true', Bool.not_eq_false'] at hd35
    refine GO_q rfl rfl (ev_loadN rfl (by repeat' first | exact LdN.blk rfl | assumption | apply LdN.skip | apply LdN.app)) ?_
    refine GO_yes rfl rfl rfl hc35 ?_
    refine GO_eff rfl rfl (eff_call rfl (lies_ctr p _)) ?_; rintro _ _ ⟨rfl, rfl⟩
    refine GO_q rfl rfl (ev_pick_t rfl hc35 rfl) ?_
    refine GO_q rfl rfl (ev_assign rfl) ?_
    refine GO_nil ?_
    (repeat first | refine G_seq ?_ | refine G_skip ?_ | refine G_endblk ?_ | refine G_block ?_ | refine G_exit rfl ?_)
    refine G_ret rfl (.tmp rfl .nil) (by (repeat first | exact fun _ s => s | apply en_keep | apply en_drop | apply en_app) <;> fail) ⟨by simp_all [retv, goodP], rfl⟩
/-- Whether a point comes ahead of another one by Y. -/
def und (p q : Pt) : Bool := decide (up p q < 0)
theorem under_ctr (p q : Pt) (L : List HP) : Ctr Tryz.prog 72 #[p.v, q.v] L fun v L' => v = .bool (und p q) ∧ L' = L := by
  refine Ctr_of (fn := Tryz.f72) (n := 9) Tryz.func72 rfl rfl rfl ?_
  intro g F
  (repeat first | refine G_seq ?_ | refine G_skip ?_ | refine G_endblk ?_ | refine G_block ?_ | refine G_exit rfl ?_)
  refine G_region ?_
  refine GO_eff rfl rfl (eff_box rfl) ?_; rintro _ _ ⟨b2, rfl, rfl⟩
  refine GO_eff rfl rfl (eff_box rfl) ?_; rintro _ _ ⟨b3, rfl, rfl⟩
  refine GO_q rfl rfl (ev_assign rfl) ?_
  refine GO_nil ?_
  (repeat first | refine G_seq ?_ | refine G_skip ?_ | refine G_endblk ?_ | refine G_block ?_ | refine G_exit rfl ?_)
  refine G_region ?_
  refine GO_q rfl rfl (ev_loadN rfl (by repeat' first | exact LdN.blk rfl | assumption | apply LdN.skip | apply LdN.app)) ?_
  refine GO_q rfl rfl (ev_loadN rfl (by repeat' first | exact LdN.blk rfl | assumption | apply LdN.skip | apply LdN.app)) ?_
  refine GO_eff rfl rfl (eff_call rfl (up_ctr p q _)) ?_; rintro _ _ ⟨rfl, rfl⟩
  (first | refine GO_q rfl rfl (ev_lssN (q := 0) rfl rfl) ?_ | refine GO_q rfl rfl (ev_lss rfl rfl) ?_)
  refine GO_q rfl rfl (ev_assign rfl) ?_
  refine GO_nil ?_
  (repeat first | refine G_seq ?_ | refine G_skip ?_ | refine G_endblk ?_ | refine G_block ?_ | refine G_exit rfl ?_)
  refine G_ret rfl (.tmp rfl .nil) (by (repeat first | exact fun _ s => s | apply en_keep | apply en_drop | apply en_app) <;> fail) ⟨rfl, rfl⟩
theorem KCmp_ctr (p q : Pt) (L : List HP) : Ctr Tryz.prog 115 #[p.v, q.v] L fun v L' => v = .int .i64 (p.cmp q) ∧ L' = L := by
  refine Ctr_of (fn := Tryz.f115) (n := 8) Tryz.func115 rfl rfl rfl ?_
  intro g F
  (repeat first | refine G_seq ?_ | refine G_skip ?_ | refine G_endblk ?_ | refine G_block ?_ | refine G_exit rfl ?_)
  refine G_region ?_
  refine GO_eff rfl rfl (eff_box rfl) ?_; rintro _ _ ⟨b2, rfl, rfl⟩
  refine GO_eff rfl rfl (eff_box rfl) ?_; rintro _ _ ⟨b3, rfl, rfl⟩
  refine GO_q rfl rfl (ev_assign rfl) ?_
  refine GO_nil ?_
  (repeat first | refine G_seq ?_ | refine G_skip ?_ | refine G_endblk ?_ | refine G_block ?_ | refine G_exit rfl ?_)
  refine G_region ?_
  refine GO_q rfl rfl (ev_loadN rfl (by repeat' first | exact LdN.blk rfl | assumption | apply LdN.skip | apply LdN.app)) ?_
  refine GO_q rfl rfl (ev_loadN rfl (by repeat' first | exact LdN.blk rfl | assumption | apply LdN.skip | apply LdN.app)) ?_
  refine GO_eff rfl rfl (eff_call rfl (compare_ctr p q _)) ?_; rintro _ _ ⟨rfl, rfl⟩
  refine GO_q rfl rfl (ev_assign rfl) ?_
  refine GO_nil ?_
  (repeat first | refine G_seq ?_ | refine G_skip ?_ | refine G_endblk ?_ | refine G_block ?_ | refine G_exit rfl ?_)
  refine G_ret rfl (.tmp rfl .nil) (by (repeat first | exact fun _ s => s | apply en_keep | apply en_drop | apply en_app) <;> fail) ⟨rfl, rfl⟩
theorem part_ctr (n : Nat) (L : List HP) (hn : n ≤ 1000000000000) : Ctr Tryz.prog 116 #[.int .i64 (n : Nat)] L fun v L' => v = .int .i64 (3 * n / 4 : Nat) ∧ L' = L := by
  refine Ctr_of (fn := Tryz.f116) (n := 6) Tryz.func116 rfl rfl rfl ?_
  intro g F
  (repeat first | refine G_seq ?_ | refine G_skip ?_ | refine G_endblk ?_ | refine G_block ?_ | refine G_exit rfl ?_)
  refine G_region ?_
  refine GO_q rfl rfl (ev_assign rfl) ?_
  refine GO_nil ?_
  (repeat first | refine G_seq ?_ | refine G_skip ?_ | refine G_endblk ?_ | refine G_block ?_ | refine G_exit rfl ?_)
  refine G_region ?_
  refine GO_q rfl rfl (ev_move rfl) ?_
  refine GO_q rfl rfl (ev_mul rfl rfl (by first | omega | (simp; done) | (simp; omega))) ?_
  (first | refine GO_q rfl rfl (ev_quoN (q := 4) rfl rfl (by first | omega | (simp; done) | (simp; omega)) (by first | omega | (simp; done) | (simp; omega))) ?_ | refine GO_q rfl rfl (ev_quo rfl rfl (by first | omega | (simp; done) | (simp; omega)) (by first | omega | (simp; done) | (simp; omega)) (by first | omega | (simp; done) | (simp; omega))) ?_)
  refine GO_q rfl rfl (ev_assign rfl) ?_
  refine GO_nil ?_
  (repeat first | refine G_seq ?_ | refine G_skip ?_ | refine G_endblk ?_ | refine G_block ?_ | refine G_exit rfl ?_)
  refine G_ret rfl (.tmp rfl .nil) (by (repeat first | exact fun _ s => s | apply en_keep | apply en_drop | apply en_app) <;> fail) ⟨rfl, rfl⟩

/-- A tree. -/
inductive PT where
  | nil
  | node (p s : Pt) (lo hi : PT)
def PT.size : PT → Nat
  | .nil => 0
  | .node _ _ lo hi => lo.size + 1 + hi.size
/-- A node's cells. -/
@[reducible] def nodeC (p s : Pt) (l h : Option Addr) (n : Nat) : List Value := [.int .i64 p.id, .int .i64 p.x, .int .i64 p.y, .int .i64 s.id, .int .i64 s.x, .int .i64 s.y, .pointer l, .pointer h, .int .i64 (n : Nat)]
/-- A tree in memory. -/
def ptH : PT → Option Addr → HP
  | .nil, a => fun _ => a = none
  | .node p s lo hi, a => fun h => ∃ x : Nat × Option Addr × Option Addr, a = some ⟨x.1, 0, none⟩ ∧ sat [blk x.1 108 (nodeC p s x.2.1 x.2.2 (lo.size + 1 + hi.size)), ptH lo x.2.1, ptH hi x.2.2] h
theorem en_nil {L M : List HP} {a : Option Addr} (f : ∀ h, sat L h → sat M h) : ∀ h, sat (ptH .nil a :: L) h → sat M h := en_drop f
theorem en_nilI {L M : List HP} (f : ∀ h, sat L h → sat M h) : ∀ h, sat L h → sat (ptH .nil none :: M) h := fun h s =>
  sat.fold (N := []) (fun _ _ => rfl) (f h s)
theorem en_nodeI {L M : List HP} {p s : Pt} {lo hi : PT} {b : Nat} {al ah : Option Addr} (f : ∀ h, sat L h → sat (blk b 108 (nodeC p s al ah (lo.size + 1 + hi.size)) :: ptH lo al :: ptH hi ah :: M) h) : ∀ h, sat L h → sat (ptH (.node p s lo hi) (some ⟨b, 0, none⟩) :: M) h := fun h s =>
  sat.fold (N := [_, _, _]) (fun _ t => ⟨(b, al, ah), rfl, t⟩) (f h s)
/-- A node is opened, in the second place. -/
theorem G_node {P : Program} {B : Exit → Act → World → Prop} {g : Glob} {n : Nat} {K : List Kt} {σ : Env} {L : List HP} {X : HP} {p s : Pt} {lo hi : PT} {a : Option Addr}
    (h : ∀ b al ah, a = some ⟨b, 0, none⟩ → G P B g n K σ (blk b 108 (nodeC p s al ah (lo.size + 1 + hi.size)) :: ptH lo al :: ptH hi ah :: X :: L)) : G P B g n K σ (X :: ptH (.node p s lo hi) a :: L) :=
  G_heap (fun _ s => s.swap) (G_open (ι := Nat × Option Addr × Option Addr) (F := fun x => a = some ⟨x.1, 0, none⟩) (N := fun x => [blk x.1 108 (nodeC p s x.2.1 x.2.2 (lo.size + 1 + hi.size)), ptH lo x.2.1, ptH hi x.2.2]) (fun _ h => h) fun x hx => h x.1 x.2.1 x.2.2 hx)
theorem G_nil {P : Program} {B : Exit → Act → World → Prop} {g : Glob} {n : Nat} {K : List Kt} {σ : Env} {L : List HP} {X : HP} {a : Option Addr} (h : a = none → G P B g n K σ (X :: L)) : G P B g n K σ (X :: ptH .nil a :: L) :=
  G_heap (fun _ s => s.swap) (G_open (ι := Unit) (F := fun _ => a = none) (N := fun _ => []) (fun _ h => ⟨(), h, sat.none_⟩) fun _ hx => h hx)
theorem PT.size_nil : PT.nil.size = 0 := rfl
theorem PT.size_node (p s : Pt) (lo hi : PT) : (PT.node p s lo hi).size = lo.size + 1 + hi.size := rfl
theorem size_ctr (t : PT) (a : Option Addr) (L : List HP) : Ctr Tryz.prog 52 #[.pointer a] (ptH t a :: L) fun v L' => v = .int .i64 (t.size : Nat) ∧ L' = ptH t a :: L := by
  cases t with
  | nil =>
    refine Ctr_of (fn := Tryz.f52) (n := 9) Tryz.func52 rfl rfl rfl ?_
    intro g F
    refine G_nil ?_
    rintro rfl
    (repeat first | refine G_seq ?_ | refine G_skip ?_ | refine G_endblk ?_ | refine G_block ?_ | refine G_exit rfl ?_)
    refine G_region ?_
    refine GO_q rfl rfl (ev_assign rfl) ?_
    refine GO_nil ?_
    (repeat first | refine G_seq ?_ | refine G_skip ?_ | refine G_endblk ?_ | refine G_block ?_ | refine G_exit rfl ?_)
    refine G_region ?_
    refine GO_q rfl rfl (ev_move rfl) ?_
    (first | refine GO_q rfl rfl (ev_eqlNil rfl rfl) ?_ | refine GO_q rfl rfl (ev_eqlPtr rfl rfl) ?_)
    refine GO_nil ?_
    (repeat first | refine G_seq ?_ | refine G_skip ?_ | refine G_endblk ?_ | refine G_block ?_ | refine G_exit rfl ?_)
    refine G_cond_t rfl rfl ?_
    (repeat first | refine G_seq ?_ | refine G_skip ?_ | refine G_endblk ?_ | refine G_block ?_ | refine G_exit rfl ?_)
    refine G_region ?_
    refine GO_q rfl rfl (ev_assign rfl) ?_
    refine GO_nil ?_
    (repeat first | refine G_seq ?_ | refine G_skip ?_ | refine G_endblk ?_ | refine G_block ?_ | refine G_exit rfl ?_)
    exact G_ret (L' := ptH .nil none :: L) rfl (.tmp rfl .nil) (en_keep (en_nilI en_refl)) ⟨rfl, rfl⟩
  | node p s lo hi =>
    refine Ctr_of (fn := Tryz.f52) (n := 9) Tryz.func52 rfl rfl rfl ?_
    intro g F
    refine G_node ?_
    rintro b al ah rfl
    (repeat first | refine G_seq ?_ | refine G_skip ?_ | refine G_endblk ?_ | refine G_block ?_ | refine G_exit rfl ?_)
    refine G_region ?_
    refine GO_q rfl rfl (ev_assign rfl) ?_
    refine GO_nil ?_
    (repeat first | refine G_seq ?_ | refine G_skip ?_ | refine G_endblk ?_ | refine G_block ?_ | refine G_exit rfl ?_)
    refine G_region ?_
    refine GO_q rfl rfl (ev_move rfl) ?_
    (first | refine GO_q rfl rfl (ev_eqlNil rfl rfl) ?_ | refine GO_q rfl rfl (ev_eqlPtr rfl rfl) ?_)
    refine GO_nil ?_
    (repeat first | refine G_seq ?_ | refine G_skip ?_ | refine G_endblk ?_ | refine G_block ?_ | refine G_exit rfl ?_)
    refine G_cond_f rfl rfl ?_
    (repeat first | refine G_seq ?_ | refine G_skip ?_ | refine G_endblk ?_ | refine G_block ?_ | refine G_exit rfl ?_)
    refine G_region ?_
    refine GO_q rfl rfl (ev_move rfl) ?_
    (first | refine GO_q rfl rfl (ev_nilCheck rfl) ?_ | refine GO_q rfl rfl (ev_nilCheckF (by simp) rfl) ?_)
    refine GO_q rfl rfl (ev_fieldAddr rfl) ?_
    refine GO_q rfl rfl (ev_load rfl (by repeat' first | exact Ld.blk rfl | assumption | apply Ld.skip | apply Ld.app)) ?_
    refine GO_q rfl rfl (ev_assign rfl) ?_
    refine GO_nil ?_
    (repeat first | refine G_seq ?_ | refine G_skip ?_ | refine G_endblk ?_ | refine G_block ?_ | refine G_exit rfl ?_)
    refine G_ret (L' := ptH (.node p s lo hi) (some ⟨b, 0, none⟩) :: L) rfl (.tmp rfl .nil) ?_ ⟨rfl, rfl⟩
    apply en_pick
    focus ((repeat' first | exact Pick.here | apply Pick.skip | apply Pick.app); done)
    exact en_nodeI (by (repeat first | exact en_refl | (apply en_blk; focus ((repeat' first | exact Pick.here | apply Pick.skip | apply Pick.app); done); focus rfl) | (apply en_own; focus ((repeat' first | exact Pick.here | apply Pick.skip | apply Pick.app); done); focus rfl) | (apply en_pick; focus ((repeat' first | exact Pick.here | apply Pick.skip | apply Pick.app); done)) | apply en_drop | apply en_app) <;> fail)
end Go.Proofs.YtalcanejhniepaaGreat
/- Trees that are heaps by Y: nodes. -/
namespace Go.Proofs.YtalcanejhniepaaGreat
attribute [local irreducible] sat
set_option linter.unusedVariables false
set_option linter.unusedSimpArgs false
set_option maxRecDepth 100000

/-- Whether a point lies on a node's high side. -/
def beh (q s : Pt) : Bool := decide (0 < q.cmp s)
theorem nbehind_ctr (q s : Pt) (b : Nat) (L : List HP) (hs : LdN L b 3 3 [.int .i64 s.id, .int .i64 s.x, .int .i64 s.y]) : Ctr Tryz.prog 98 #[.pointer (some ⟨b, 0, none⟩), q.v] L fun v L' => v = .bool (beh q s) ∧ L' = L := by
  have hs' : LdN L b (0 + 3) 3 [.int .i64 s.id, .int .i64 s.x, .int .i64 s.y] := hs
  refine Ctr_of (fn := Tryz.f98) (n := 12) Tryz.func98 rfl rfl rfl ?_
  intro g F
  (repeat first | refine G_seq ?_ | refine G_skip ?_ | refine G_endblk ?_ | refine G_block ?_ | refine G_exit rfl ?_)
  refine G_region ?_
  refine GO_eff rfl rfl (eff_box rfl) ?_; rintro _ _ ⟨b3, rfl, rfl⟩
  refine GO_q rfl rfl (ev_assign rfl) ?_
  refine GO_nil ?_
  (repeat first | refine G_seq ?_ | refine G_skip ?_ | refine G_endblk ?_ | refine G_block ?_ | refine G_exit rfl ?_)
  refine G_draw (.q 0 (.q 1 (.q 2 (.q 3 (.q 4 (.e 5 (.q 6 (.q 7 .nil)))))))) (by kernel_rfl) (by kernel_rfl) ?_
  refine RS_q retB_noPanic rfl rfl rfl rfl (ev_loadN rfl (by repeat' first | exact LdN.blk rfl | assumption | apply LdN.skip | apply LdN.app)) ?_
  refine RS_m retB_noPanic rfl rfl rfl rfl (ev_move rfl) ?_
  (first | refine RS_m retB_noPanic rfl rfl rfl rfl (ev_nilCheck rfl) ?_ | refine RS_m retB_noPanic rfl rfl rfl rfl (ev_nilCheckF (by simp) rfl) ?_)
  refine RS_m retB_noPanic rfl rfl rfl rfl (ev_fieldAddr rfl) ?_
  refine RS_q retB_noPanic rfl rfl rfl rfl (ev_loadN rfl (by repeat' first | exact LdN.blk rfl | assumption | apply LdN.skip | apply LdN.app)) ?_
  refine RS_e (RE_eff rfl rfl rfl (eff_call rfl (KCmp_ctr q s _)) ?_); rintro _ _ ⟨rfl, rfl⟩; refine ⟨_, fun _ s => s, (by first | ((repeat first | exact fun _ s => s | apply en_keep | apply en_drop | apply en_app) <;> fail) | ((repeat first | exact en_refl | (apply en_blk; focus ((repeat' first | exact Pick.here | apply Pick.skip | apply Pick.app); done); focus rfl) | (apply en_own; focus ((repeat' first | exact Pick.here | apply Pick.skip | apply Pick.app); done); focus rfl) | (apply en_pick; focus ((repeat' first | exact Pick.here | apply Pick.skip | apply Pick.app); done)) | apply en_drop | apply en_app) <;> fail)), ?_⟩
  refine RS_m retB_noPanic rfl rfl rfl rfl (ev_gtr rfl rfl) ?_
  refine RS_m retB_noPanic rfl rfl rfl rfl (ev_assign rfl) ?_
  refine RS_nil ?_
  (repeat first | refine G_seq ?_ | refine G_skip ?_ | refine G_endblk ?_ | refine G_block ?_ | refine G_exit rfl ?_)
  refine G_ret rfl (.tmp rfl .nil) (by (repeat first | exact fun _ s => s | apply en_keep | apply en_drop | apply en_app) <;> fail) ⟨rfl, rfl⟩
theorem kid_ctr (q s : Pt) (b : Nat) (L : List HP) (hs : LdN L b 3 3 [.int .i64 s.id, .int .i64 s.x, .int .i64 s.y]) : Ctr Tryz.prog 73 #[.pointer (some ⟨b, 0, none⟩), q.v] L fun v L' => v = .pointer (some ⟨b, (if beh q s then 7 else 6), none⟩) ∧ L' = L := by
  refine Ctr_of (fn := Tryz.f73) (n := 14) Tryz.func73 rfl rfl rfl ?_
  intro g F
  (repeat first | refine G_seq ?_ | refine G_skip ?_ | refine G_endblk ?_ | refine G_block ?_ | refine G_exit rfl ?_)
  refine G_region ?_
  refine GO_eff rfl rfl (eff_box rfl) ?_; rintro _ _ ⟨b3, rfl, rfl⟩
  refine GO_q rfl rfl (ev_assign rfl) ?_
  refine GO_nil ?_
  (repeat first | refine G_seq ?_ | refine G_skip ?_ | refine G_endblk ?_ | refine G_block ?_ | refine G_exit rfl ?_)
  refine G_region ?_
  refine GO_q rfl rfl (ev_move rfl) ?_
  refine GO_q rfl rfl (ev_loadN rfl (by repeat' first | exact LdN.blk rfl | assumption | apply LdN.skip | apply LdN.app)) ?_
  refine GO_eff rfl rfl (eff_call rfl (nbehind_ctr q s b _ (by repeat' first | exact LdN.blk rfl | assumption | apply LdN.skip | apply LdN.app))) ?_; rintro _ _ ⟨rfl, rfl⟩
  refine GO_nil ?_
  (repeat first | refine G_seq ?_ | refine G_skip ?_ | refine G_endblk ?_ | refine G_block ?_ | refine G_exit rfl ?_)
  refine G_condB rfl (fun h1 => ?_) (fun h1 => ?_)
  · rw [h1]
    (repeat first | refine G_seq ?_ | refine G_skip ?_ | refine G_endblk ?_ | refine G_block ?_ | refine G_exit rfl ?_)
    refine G_region ?_
    refine GO_q rfl rfl (ev_move rfl) ?_
    (first | refine GO_q rfl rfl (ev_nilCheck rfl) ?_ | refine GO_q rfl rfl (ev_nilCheckF (by simp) rfl) ?_)
    refine GO_q rfl rfl (ev_fieldAddr rfl) ?_
    refine GO_q rfl rfl (ev_assign rfl) ?_
    refine GO_nil ?_
    (repeat first | refine G_seq ?_ | refine G_skip ?_ | refine G_endblk ?_ | refine G_block ?_ | refine G_exit rfl ?_)
    refine G_ret rfl (.tmp rfl .nil) (by (repeat first | exact fun _ s => s | apply en_keep | apply en_drop | apply en_app) <;> fail) ⟨rfl, rfl⟩
  · rw [h1]
    (repeat first | refine G_seq ?_ | refine G_skip ?_ | refine G_endblk ?_ | refine G_block ?_ | refine G_exit rfl ?_)
    refine G_region ?_
    refine GO_q rfl rfl (ev_move rfl) ?_
    (first | refine GO_q rfl rfl (ev_nilCheck rfl) ?_ | refine GO_q rfl rfl (ev_nilCheckF (by simp) rfl) ?_)
    refine GO_q rfl rfl (ev_fieldAddr rfl) ?_
    refine GO_q rfl rfl (ev_assign rfl) ?_
    refine GO_nil ?_
    (repeat first | refine G_seq ?_ | refine G_skip ?_ | refine G_endblk ?_ | refine G_block ?_ | refine G_exit rfl ?_)
    refine G_ret rfl (.tmp rfl .nil) (by (repeat first | exact fun _ s => s | apply en_keep | apply en_drop | apply en_app) <;> fail) ⟨rfl, rfl⟩
theorem note_ctr (p s : Pt) (lo hi : PT) (b m : Nat) (al ah : Option Addr) (L : List HP) (hsz : lo.size + hi.size ≤ 1000000) :
    Ctr Tryz.prog 74 #[.pointer (some ⟨b, 0, none⟩)] (blk b 108 (nodeC p s al ah m) :: ptH lo al :: ptH hi ah :: L) fun v L' => v = .pointer (some ⟨b, 0, none⟩) ∧ L' = ptH (.node p s lo hi) (some ⟨b, 0, none⟩) :: L := by
  refine Ctr_of (fn := Tryz.f74) (n := 19) Tryz.func74 rfl rfl rfl ?_
  intro g F
  (repeat first | refine G_seq ?_ | refine G_skip ?_ | refine G_endblk ?_ | refine G_block ?_ | refine G_exit rfl ?_)
  refine G_region ?_
  refine GO_q rfl rfl (ev_assign rfl) ?_
  refine GO_nil ?_
  (repeat first | refine G_seq ?_ | refine G_skip ?_ | refine G_endblk ?_ | refine G_block ?_ | refine G_exit rfl ?_)
  refine G_draw (.q 0 (.q 1 (.q 2 (.q 3 (.q 4 (.q 7 (.q 8 (.q 9 (.q 10 (.e 5 (.q 6 (.e 11 (.q 12 (.q 13 (.q 14 (.e 15 .nil)))))))))))))))) (by kernel_rfl) (by kernel_rfl) ?_
  refine RS_m retB_noPanic rfl rfl rfl rfl (ev_move rfl) ?_
  refine RS_m retB_noPanic rfl rfl rfl rfl (ev_move rfl) ?_
  (first | refine RS_m retB_noPanic rfl rfl rfl rfl (ev_nilCheck rfl) ?_ | refine RS_m retB_noPanic rfl rfl rfl rfl (ev_nilCheckF (by simp) rfl) ?_)
  refine RS_m retB_noPanic rfl rfl rfl rfl (ev_fieldAddr rfl) ?_
  refine RS_q retB_noPanic rfl rfl rfl rfl (ev_load rfl (by repeat' first | exact Ld.blk rfl | assumption | apply Ld.skip | apply Ld.app)) ?_
  refine RS_m retB_noPanic rfl rfl rfl rfl (ev_move rfl) ?_
  (first | refine RS_m retB_noPanic rfl rfl rfl rfl (ev_nilCheck rfl) ?_ | refine RS_m retB_noPanic rfl rfl rfl rfl (ev_nilCheckF (by simp) rfl) ?_)
  refine RS_m retB_noPanic rfl rfl rfl rfl (ev_fieldAddr rfl) ?_
  refine RS_q retB_noPanic rfl rfl rfl rfl (ev_load rfl (by repeat' first | exact Ld.blk rfl | assumption | apply Ld.skip | apply Ld.app)) ?_
  refine RS_e (RE_eff rfl rfl rfl (eff_call rfl (Ctr.pick (by repeat' first | exact Pick.here | apply Pick.skip | apply Pick.app) (size_ctr lo al _))) ?_); rintro _ _ ⟨rfl, rfl⟩; refine ⟨_, fun _ s => s, (by first | ((repeat first | exact fun _ s => s | apply en_keep | apply en_drop | apply en_app) <;> fail) | ((repeat first | exact en_refl | (apply en_blk; focus ((repeat' first | exact Pick.here | apply Pick.skip | apply Pick.app); done); focus rfl) | (apply en_own; focus ((repeat' first | exact Pick.here | apply Pick.skip | apply Pick.app); done); focus rfl) | (apply en_pick; focus ((repeat' first | exact Pick.here | apply Pick.skip | apply Pick.app); done)) | apply en_drop | apply en_app) <;> fail)), ?_⟩
  (first | refine RS_m retB_noPanic rfl rfl rfl rfl (ev_addN (q := 1) rfl rfl (by first | omega | (simp; done) | (simp; omega))) ?_ | refine RS_m retB_noPanic rfl rfl rfl rfl (ev_add rfl rfl (by first | omega | (simp; done) | (simp; omega))) ?_)
  refine RS_e (RE_cmp (by kernel_rfl) rfl rfl rfl (eff_call rfl (Ctr.pick (by repeat' first | exact Pick.here | apply Pick.skip | apply Pick.app) (size_ctr hi ah _))) ?_); rintro _ _ ⟨rfl, rfl⟩
  (first | refine RS_m retB_noPanic rfl rfl rfl rfl (ev_addN rfl rfl (by first | omega | (simp; done) | (simp; omega))) ?_ | refine RS_m retB_noPanic rfl rfl rfl rfl (ev_add rfl rfl (by first | omega | (simp; done) | (simp; omega))) ?_)
  (first | refine RS_m retB_noPanic rfl rfl rfl rfl (ev_nilCheck rfl) ?_ | refine RS_m retB_noPanic rfl rfl rfl rfl (ev_nilCheckF (by simp) rfl) ?_)
  refine RS_m retB_noPanic rfl rfl rfl rfl (ev_fieldAddr rfl) ?_
  refine RS_e (RE_last (by kernel_rfl) rfl rfl rfl (eff_store rfl rfl rfl (by repeat' first | exact Upd.here rfl | apply Upd.skip | apply Upd.app)) ?_); rintro _ _ ⟨rfl, rfl⟩
  (repeat first | refine G_seq ?_ | refine G_skip ?_ | refine G_endblk ?_ | refine G_block ?_ | refine G_exit rfl ?_)
  refine G_region ?_
  refine GO_q rfl rfl (ev_move rfl) ?_
  refine GO_q rfl rfl (ev_assign rfl) ?_
  refine GO_nil ?_
  (repeat first | refine G_seq ?_ | refine G_skip ?_ | refine G_endblk ?_ | refine G_block ?_ | refine G_exit rfl ?_)
  refine G_ret (L' := ptH (.node p s lo hi) (some ⟨b, 0, none⟩) :: L) rfl (.tmp rfl .nil) ?_ ⟨rfl, rfl⟩
  apply en_pick
  focus ((repeat' first | exact Pick.here | apply Pick.skip | apply Pick.app); done)
  exact en_nodeI (by (repeat first | exact en_refl | (apply en_blk; focus ((repeat' first | exact Pick.here | apply Pick.skip | apply Pick.app); done); focus rfl) | (apply en_own; focus ((repeat' first | exact Pick.here | apply Pick.skip | apply Pick.app); done); focus rfl) | (apply en_pick; focus ((repeat' first | exact Pick.here | apply Pick.skip | apply Pick.app); done)) | apply en_drop | apply en_app) <;> fail)
def PT.heavy : PT → Bool
  | .nil => false
  | .node _ _ lo hi => decide (3 * (lo.size + 1 + hi.size) / 4 < max lo.size hi.size)
theorem heavy_ctr (p s : Pt) (lo hi : PT) (a : Option Addr) (L : List HP) (hsz : lo.size + hi.size ≤ 1000000) :
    Ctr Tryz.prog 99 #[.pointer a] (ptH (.node p s lo hi) a :: L) fun v L' => v = .bool (PT.node p s lo hi).heavy ∧ L' = ptH (.node p s lo hi) a :: L := by
  refine Ctr_of (fn := Tryz.f99) (n := 20) Tryz.func99 rfl rfl rfl ?_
  intro g F
  refine G_node ?_
  rintro b al ah rfl
  (repeat first | refine G_seq ?_ | refine G_skip ?_ | refine G_endblk ?_ | refine G_block ?_ | refine G_exit rfl ?_)
  refine G_region ?_
  refine GO_q rfl rfl (ev_assign rfl) ?_
  refine GO_nil ?_
  (repeat first | refine G_seq ?_ | refine G_skip ?_ | refine G_endblk ?_ | refine G_block ?_ | refine G_exit rfl ?_)
  refine G_draw (.q 0 (.q 1 (.q 2 (.q 3 (.q 5 (.q 6 (.q 7 (.q 8 (.q 11 (.q 12 (.q 13 (.q 14 (.e 4 (.e 9 (.q 10 (.e 15 (.q 16 (.q 17 .nil)))))))))))))))))) (by kernel_rfl) (by kernel_rfl) ?_
  refine RS_m retB_noPanic rfl rfl rfl rfl (ev_move rfl) ?_
  (first | refine RS_m retB_noPanic rfl rfl rfl rfl (ev_nilCheck rfl) ?_ | refine RS_m retB_noPanic rfl rfl rfl rfl (ev_nilCheckF (by simp) rfl) ?_)
  refine RS_m retB_noPanic rfl rfl rfl rfl (ev_fieldAddr rfl) ?_
  refine RS_q retB_noPanic rfl rfl rfl rfl (ev_load rfl (by repeat' first | exact Ld.blk rfl | assumption | apply Ld.skip | apply Ld.app)) ?_
  refine RS_m retB_noPanic rfl rfl rfl rfl (ev_move rfl) ?_
  (first | refine RS_m retB_noPanic rfl rfl rfl rfl (ev_nilCheck rfl) ?_ | refine RS_m retB_noPanic rfl rfl rfl rfl (ev_nilCheckF (by simp) rfl) ?_)
  refine RS_m retB_noPanic rfl rfl rfl rfl (ev_fieldAddr rfl) ?_
  refine RS_q retB_noPanic rfl rfl rfl rfl (ev_load rfl (by repeat' first | exact Ld.blk rfl | assumption | apply Ld.skip | apply Ld.app)) ?_
  refine RS_m retB_noPanic rfl rfl rfl rfl (ev_move rfl) ?_
  (first | refine RS_m retB_noPanic rfl rfl rfl rfl (ev_nilCheck rfl) ?_ | refine RS_m retB_noPanic rfl rfl rfl rfl (ev_nilCheckF (by simp) rfl) ?_)
  refine RS_m retB_noPanic rfl rfl rfl rfl (ev_fieldAddr rfl) ?_
  refine RS_q retB_noPanic rfl rfl rfl rfl (ev_load rfl (by repeat' first | exact Ld.blk rfl | assumption | apply Ld.skip | apply Ld.app)) ?_
  refine RS_e (RE_eff rfl rfl rfl (eff_call rfl (Ctr.pick (by repeat' first | exact Pick.here | apply Pick.skip | apply Pick.app) (size_ctr lo al _))) ?_); rintro _ _ ⟨rfl, rfl⟩; refine ⟨_, fun _ s => s, (by first | ((repeat first | exact fun _ s => s | apply en_keep | apply en_drop | apply en_app) <;> fail) | ((repeat first | exact en_refl | (apply en_blk; focus ((repeat' first | exact Pick.here | apply Pick.skip | apply Pick.app); done); focus rfl) | (apply en_own; focus ((repeat' first | exact Pick.here | apply Pick.skip | apply Pick.app); done); focus rfl) | (apply en_pick; focus ((repeat' first | exact Pick.here | apply Pick.skip | apply Pick.app); done)) | apply en_drop | apply en_app) <;> fail)), ?_⟩
  refine RS_e (RE_eff rfl rfl rfl (eff_call rfl (Ctr.pick (by repeat' first | exact Pick.here | apply Pick.skip | apply Pick.app) (size_ctr hi ah _))) ?_); rintro _ _ ⟨rfl, rfl⟩; refine ⟨_, fun _ s => s, (by first | ((repeat first | exact fun _ s => s | apply en_keep | apply en_drop | apply en_app) <;> fail) | ((repeat first | exact en_refl | (apply en_blk; focus ((repeat' first | exact Pick.here | apply Pick.skip | apply Pick.app); done); focus rfl) | (apply en_own; focus ((repeat' first | exact Pick.here | apply Pick.skip | apply Pick.app); done); focus rfl) | (apply en_pick; focus ((repeat' first | exact Pick.here | apply Pick.skip | apply Pick.app); done)) | apply en_drop | apply en_app) <;> fail)), ?_⟩
  refine RS_q retB_noPanic rfl rfl rfl rfl (ev_max rfl rfl) ?_
  refine RS_e (RE_eff rfl rfl rfl (eff_call rfl (part_ctr (lo.size + 1 + hi.size) _ (by omega))) ?_); rintro _ _ ⟨rfl, rfl⟩; refine ⟨_, fun _ s => s, (by first | ((repeat first | exact fun _ s => s | apply en_keep | apply en_drop | apply en_app) <;> fail) | ((repeat first | exact en_refl | (apply en_blk; focus ((repeat' first | exact Pick.here | apply Pick.skip | apply Pick.app); done); focus rfl) | (apply en_own; focus ((repeat' first | exact Pick.here | apply Pick.skip | apply Pick.app); done); focus rfl) | (apply en_pick; focus ((repeat' first | exact Pick.here | apply Pick.skip | apply Pick.app); done)) | apply en_drop | apply en_app) <;> fail)), ?_⟩
  refine RS_m retB_noPanic rfl rfl rfl rfl (ev_gtr rfl rfl) ?_
  refine RS_m retB_noPanic rfl rfl rfl rfl (ev_assign rfl) ?_
  refine RS_nil ?_
  (repeat first | refine G_seq ?_ | refine G_skip ?_ | refine G_endblk ?_ | refine G_block ?_ | refine G_exit rfl ?_)
  refine G_ret (L' := ptH (.node p s lo hi) (some ⟨b, 0, none⟩) :: L) rfl (.tmp rfl .nil) ?_ ⟨congrArg Value.bool (by unfold PT.heavy; exact decide_eq_decide.2 (by omega)), rfl⟩
  apply en_pick
  focus ((repeat' first | exact Pick.here | apply Pick.skip | apply Pick.app); done)
  exact en_nodeI (by (repeat first | exact en_refl | (apply en_blk; focus ((repeat' first | exact Pick.here | apply Pick.skip | apply Pick.app); done); focus rfl) | (apply en_own; focus ((repeat' first | exact Pick.here | apply Pick.skip | apply Pick.app); done); focus rfl) | (apply en_pick; focus ((repeat' first | exact Pick.here | apply Pick.skip | apply Pick.app); done)) | apply en_drop | apply en_app) <;> fail)
end Go.Proofs.YtalcanejhniepaaGreat
/- Trees that are heaps by Y: the plain part. -/
namespace Go.Proofs.YtalcanejhniepaaGreat
set_option linter.unusedVariables false
set_option linter.unusedSimpArgs false

theorem und_irrefl (p : Pt) : und p p = false := by simp [und, up, Pt.cmp]
theorem beh_false (q s : Pt) : beh q s = false ↔ s.less q = false := by
  unfold beh
  rw [decide_eq_false_iff_not]
  exact Pt.cmp_le q s
theorem beh_true (q s : Pt) : beh q s = true ↔ s.less q = true := by
  unfold beh
  rw [decide_eq_true_eq]
  exact Pt.cmp_gt q s
theorem less_of_beh {a b s : Pt} (h1 : beh a s = false) (h2 : beh b s = true) : a.less b = true := by
  rw [beh_false] at h1
  rw [beh_true] at h2
  by_cases e : s = a
  · subst e; exact h2
  · exact Pt.less_trans (Pt.less_total e h1) h2
theorem und_iff (p q : Pt) : und p q = true ↔ p.turned.less q.turned = true := by
  unfold und up
  rw [decide_eq_true_eq]
  unfold Pt.cmp
  by_cases h : p.turned = q.turned
  · simp [h, Pt.less_irrefl]
  · by_cases k : p.turned.less q.turned = true
    · simp [h, k]
    · have k' : p.turned.less q.turned = false := by simpa using k
      simp [h, k']
theorem turned_inj {p q : Pt} (h : p.turned = q.turned) : p = q := by
  obtain ⟨a, b, c⟩ := p
  obtain ⟨d, e, f⟩ := q
  simp [Pt.turned] at h
  simp [h]
theorem und_trans {p q r : Pt} (h : und p q = true) (k : und q r = true) : und p r = true := by
  rw [und_iff] at *; exact Pt.less_trans h k
theorem und_asymm {p q : Pt} (h : und p q = true) : und q p = false := by
  cases k : und q p with
  | false => rfl
  | true => rw [und_iff] at *; rw [Pt.less_asymm h] at k; cases k
theorem und_total {p q : Pt} (h : p ≠ q) (k : und p q = false) : und q p = true := by
  rw [und_iff]
  refine Pt.less_total (fun e => h (turned_inj e)) ?_
  cases k2 : p.turned.less q.turned with
  | false => rfl
  | true => rw [← und_iff] at k2; rw [k2] at k; cases k
theorem und_ne {p q : Pt} (h : und p q = true) : p ≠ q := fun e => by subst e; rw [und_irrefl] at h; cases h

/-- All points of a tree; and in order. -/
def PT.els : PT → List Pt
  | .nil => []
  | .node p _ lo hi => p :: (lo.els ++ hi.els)
def PT.pts : PT → List Pt
  | .nil => []
  | .node p _ lo hi => putP p (lo.pts ++ hi.pts)
/-- All points lie on their sides, and none lies above the one above it. -/
def PT.Ok : PT → Prop
  | .nil => True
  | .node p s lo hi => lo.Ok ∧ hi.Ok ∧ (∀ q ∈ lo.els, beh q s = false) ∧ (∀ q ∈ hi.els, beh q s = true) ∧ (∀ q ∈ lo.els ++ hi.els, und q p = true)
theorem PT.els_length : ∀ t : PT, t.els.length = t.size
  | .nil => rfl
  | .node p s lo hi => by simp only [PT.els, PT.size, List.length_cons, List.length_append, els_length lo, els_length hi]; omega
theorem PT.pts_perm : ∀ t : PT, t.pts.Perm t.els
  | .nil => .refl _
  | .node p s lo hi => (putP_perm p _).trans (((pts_perm lo).append (pts_perm hi)).cons p)
theorem PT.pts_length (t : PT) : t.pts.length = t.size := by rw [t.pts_perm.length_eq, t.els_length]
theorem PT.kids_asc {p s : Pt} {lo hi : PT} (h : (PT.node p s lo hi).Ok) (h1 : Asc lo.pts) (h2 : Asc hi.pts) : Asc (lo.pts ++ hi.pts) :=
  Asc.append h1 h2 fun a ha b hb => less_of_beh (h.2.2.1 a (lo.pts_perm.subset ha)) (h.2.2.2.1 b (hi.pts_perm.subset hb))
theorem PT.top_new {p s : Pt} {lo hi : PT} (h : (PT.node p s lo hi).Ok) : p ∉ lo.pts ++ hi.pts := fun hp => by
  have : p ∈ lo.els ++ hi.els := by
    rcases List.mem_append.1 hp with h' | h'
    · exact List.mem_append.2 (.inl (lo.pts_perm.subset h'))
    · exact List.mem_append.2 (.inr (hi.pts_perm.subset h'))
  exact und_ne (h.2.2.2.2 p this) rfl
theorem PT.pts_asc : ∀ {t : PT}, t.Ok → Asc t.pts
  | .nil, _ => List.Pairwise.nil
  | .node p s lo hi, h => putP_asc p _ (PT.kids_asc h (pts_asc h.1) (pts_asc h.2.1)) (PT.top_new h)
theorem PT.els_nodup {t : PT} (h : t.Ok) : t.els.Nodup := t.pts_perm.nodup_iff.1 (PT.pts_asc h).nodup
end Go.Proofs.YtalcanejhniepaaGreat
/- Trees that are heaps by Y: the points in order. -/
namespace Go.Proofs.YtalcanejhniepaaGreat
attribute [local irreducible] sat
set_option linter.unusedVariables false
set_option linter.unusedSimpArgs false
set_option maxRecDepth 100000

theorem points_ctr : ∀ (t : PT) (a : Option Addr) (L : List HP), t.Ok → t.size ≤ 100000 → Ctr Tryz.prog 101 #[.pointer a] (ptH t a :: L) fun v L' => Made 29 t.pts (ptH t a :: L) v L'
  | .nil, a, L, _, _ => by
    refine Ctr_of (fn := Tryz.f101) (n := 22) Tryz.func101 rfl rfl rfl ?_
    intro g F
    refine G_nil ?_
    rintro rfl
    (repeat first | refine G_seq ?_ | refine G_skip ?_ | refine G_endblk ?_ | refine G_block ?_ | refine G_exit rfl ?_)
    refine G_region ?_
    refine GO_q rfl rfl (ev_assign rfl) ?_
    refine GO_nil ?_
    (repeat first | refine G_seq ?_ | refine G_skip ?_ | refine G_endblk ?_ | refine G_block ?_ | refine G_exit rfl ?_)
    refine G_region ?_
    refine GO_q rfl rfl (ev_move rfl) ?_
    (first | refine GO_q rfl rfl (ev_eqlNil rfl rfl) ?_ | refine GO_q rfl rfl (ev_eqlPtr rfl rfl) ?_)
    refine GO_nil ?_
    (repeat first | refine G_seq ?_ | refine G_skip ?_ | refine G_endblk ?_ | refine G_block ?_ | refine G_exit rfl ?_)
    refine G_cond_t rfl rfl ?_
    (repeat first | refine G_seq ?_ | refine G_skip ?_ | refine G_endblk ?_ | refine G_block ?_ | refine G_exit rfl ?_)
    refine G_region ?_
    refine GO_q rfl rfl (ev_assign rfl) ?_
    refine GO_nil ?_
    (repeat first | refine G_seq ?_ | refine G_skip ?_ | refine G_endblk ?_ | refine G_block ?_ | refine G_exit rfl ?_)
    exact G_ret (L' := own 29 3 none 0 0 [] :: ptH .nil none :: L) rfl (.tmp rfl .nil) (fun h s => (own.nil_ 29 3 h (en_nilI (L := F :: L) (M := F :: L) en_refl h s)) |> (fun s => en_pick (.skip (.skip .here)) en_refl h s)) ⟨none, 0, rfl, fun h => absurd h (Nat.lt_irrefl 0), rfl⟩
  | .node p s lo hi, a, L, hOk, hsz => by
    have ih1 := fun al L => points_ctr lo al L hOk.1 (by simp only [PT.size] at hsz; omega)
    have ih2 := fun ah L => points_ctr hi ah L hOk.2.1 (by simp only [PT.size] at hsz; omega)
    have l1 := lo.pts_length
    have l2 := hi.pts_length
    have hk := PT.kids_asc hOk (PT.pts_asc hOk.1) (PT.pts_asc hOk.2.1)
    simp only [PT.size] at hsz
    refine Ctr_of (fn := Tryz.f101) (n := 22) Tryz.func101 rfl rfl rfl ?_
    intro g F
    refine G_node ?_
    rintro b al ah rfl
    (repeat first | refine G_seq ?_ | refine G_skip ?_ | refine G_endblk ?_ | refine G_block ?_ | refine G_exit rfl ?_)
    refine G_region ?_
    refine GO_q rfl rfl (ev_assign rfl) ?_
    refine GO_nil ?_
    (repeat first | refine G_seq ?_ | refine G_skip ?_ | refine G_endblk ?_ | refine G_block ?_ | refine G_exit rfl ?_)
    refine G_region ?_
    refine GO_q rfl rfl (ev_move rfl) ?_
    (first | refine GO_q rfl rfl (ev_eqlNil rfl rfl) ?_ | refine GO_q rfl rfl (ev_eqlPtr rfl rfl) ?_)
    refine GO_nil ?_
    (repeat first | refine G_seq ?_ | refine G_skip ?_ | refine G_endblk ?_ | refine G_block ?_ | refine G_exit rfl ?_)
    refine G_cond_f rfl rfl ?_
    (repeat first | refine G_seq ?_ | refine G_skip ?_ | refine G_endblk ?_ | refine G_block ?_ | refine G_exit rfl ?_)
    refine G_draw (.q 0 (.q 1 (.q 2 (.q 3 (.q 5 (.q 6 (.q 7 (.q 8 (.q 12 (.q 13 (.q 14 (.q 15 (.e 4 (.e 9 (.e 10 (.e 11 (.e 16 (.q 17 .nil)))))))))))))))))) (by kernel_rfl) (by kernel_rfl) ?_
    refine RS_m retB_noPanic rfl rfl rfl rfl (ev_move rfl) ?_
    (first | refine RS_m retB_noPanic rfl rfl rfl rfl (ev_nilCheck rfl) ?_ | refine RS_m retB_noPanic rfl rfl rfl rfl (ev_nilCheckF (by simp) rfl) ?_)
    refine RS_m retB_noPanic rfl rfl rfl rfl (ev_fieldAddr rfl) ?_
    refine RS_q retB_noPanic rfl rfl rfl rfl (ev_load rfl (by repeat' first | exact Ld.blk rfl | assumption | apply Ld.skip | apply Ld.app)) ?_
    refine RS_m retB_noPanic rfl rfl rfl rfl (ev_move rfl) ?_
    (first | refine RS_m retB_noPanic rfl rfl rfl rfl (ev_nilCheck rfl) ?_ | refine RS_m retB_noPanic rfl rfl rfl rfl (ev_nilCheckF (by simp) rfl) ?_)
    refine RS_m retB_noPanic rfl rfl rfl rfl (ev_fieldAddr rfl) ?_
    refine RS_q retB_noPanic rfl rfl rfl rfl (ev_load rfl (by repeat' first | exact Ld.blk rfl | assumption | apply Ld.skip | apply Ld.app)) ?_
    refine RS_m retB_noPanic rfl rfl rfl rfl (ev_move rfl) ?_
    (first | refine RS_m retB_noPanic rfl rfl rfl rfl (ev_nilCheck rfl) ?_ | refine RS_m retB_noPanic rfl rfl rfl rfl (ev_nilCheckF (by simp) rfl) ?_)
    refine RS_m retB_noPanic rfl rfl rfl rfl (ev_fieldAddr rfl) ?_
    refine RS_q retB_noPanic rfl rfl rfl rfl (ev_loadN rfl (by repeat' first | exact LdN.blk rfl | assumption | apply LdN.skip | apply LdN.app)) ?_
    refine RS_e (RE_eff rfl rfl rfl (eff_call rfl (Ctr.pick (by repeat' first | exact Pick.here | apply Pick.skip | apply Pick.app) (ih1 al _))) ?_); rintro _ _ ⟨A9, c9, rfl, hA9, rfl⟩; refine ⟨_, (by first | ((repeat first | exact fun _ s => s | apply en_keep | apply en_drop | apply en_app) <;> fail) | ((repeat first | exact en_refl | (apply en_blk; focus ((repeat' first | exact Pick.here | apply Pick.skip | apply Pick.app); done); focus rfl) | (apply en_own; focus ((repeat' first | exact Pick.here | apply Pick.skip | apply Pick.app); done); focus rfl) | (apply en_pick; focus ((repeat' first | exact Pick.here | apply Pick.skip | apply Pick.app); done)) | apply en_drop | apply en_app) <;> fail)), fun _ s => s, ?_⟩
    refine RS_e (RE_eff rfl rfl rfl (eff_call rfl (Ctr.pick (by repeat' first | exact Pick.here | apply Pick.skip | apply Pick.app) (ih2 ah _))) ?_); rintro _ _ ⟨A14, c14, rfl, hA14, rfl⟩; refine ⟨_, (by first | ((repeat first | exact fun _ s => s | apply en_keep | apply en_drop | apply en_app) <;> fail) | ((repeat first | exact en_refl | (apply en_blk; focus ((repeat' first | exact Pick.here | apply Pick.skip | apply Pick.app); done); focus rfl) | (apply en_own; focus ((repeat' first | exact Pick.here | apply Pick.skip | apply Pick.app); done); focus rfl) | (apply en_pick; focus ((repeat' first | exact Pick.here | apply Pick.skip | apply Pick.app); done)) | apply en_drop | apply en_app) <;> fail)), fun _ s => s, ?_⟩
    refine RS_e (RE_eff rfl rfl rfl (eff_buildSliceN (by rfl) rfl rfl) ?_); rintro _ _ ⟨b15, rfl, rfl⟩; refine ⟨_, (by first | ((repeat first | exact fun _ s => s | apply en_keep | apply en_drop | apply en_app) <;> fail) | ((repeat first | exact en_refl | (apply en_blk; focus ((repeat' first | exact Pick.here | apply Pick.skip | apply Pick.app); done); focus rfl) | (apply en_own; focus ((repeat' first | exact Pick.here | apply Pick.skip | apply Pick.app); done); focus rfl) | (apply en_pick; focus ((repeat' first | exact Pick.here | apply Pick.skip | apply Pick.app); done)) | apply en_drop | apply en_app) <;> fail)), fun _ s => s, ?_⟩
    refine RS_e (RE_eff rfl rfl rfl (eff_call rfl (Ctr.pre (M := blk b15 36 [.slice A9 lo.pts.length c9, .slice A14 hi.pts.length c14] :: own 29 3 A9 lo.pts.length c9 (flat lo.pts) :: own 29 3 A14 hi.pts.length c14 (flat hi.pts) :: _) (by (repeat first | exact en_refl | (apply en_blk; focus ((repeat' first | exact Pick.here | apply Pick.skip | apply Pick.app); done); focus rfl) | (apply en_own; focus ((repeat' first | exact Pick.here | apply Pick.skip | apply Pick.app); done); focus rfl) | (apply en_pick; focus ((repeat' first | exact Pick.here | apply Pick.skip | apply Pick.app); done)) | apply en_drop | apply en_app) <;> fail) (Concat_ctr A9 A14 _ _ c9 c14 b15 lo.pts hi.pts _ rfl rfl (by omega) (by omega) hA9 hA14))) ?_); rintro _ _ ⟨A16, c16, rfl, hA16, rfl⟩; refine ⟨_, (by first | ((repeat first | exact fun _ s => s | apply en_keep | apply en_drop | apply en_app) <;> fail) | ((repeat first | exact en_refl | (apply en_blk; focus ((repeat' first | exact Pick.here | apply Pick.skip | apply Pick.app); done); focus rfl) | (apply en_own; focus ((repeat' first | exact Pick.here | apply Pick.skip | apply Pick.app); done); focus rfl) | (apply en_pick; focus ((repeat' first | exact Pick.here | apply Pick.skip | apply Pick.app); done)) | apply en_drop | apply en_app) <;> fail)), fun _ s => s, ?_⟩
    refine RS_e (RE_eff rfl rfl rfl (eff_call rfl (Put_ctr A16 _ c16 (lo.pts ++ hi.pts) p _ (Rc.own (flat_length _) hA16) (by rw [List.length_append]; omega) hk)) ?_); rintro _ _ ⟨A21, c21, rfl, hA21, rfl⟩; refine ⟨_, (by first | ((repeat first | exact fun _ s => s | apply en_keep | apply en_drop | apply en_app) <;> fail) | ((repeat first | exact en_refl | (apply en_blk; focus ((repeat' first | exact Pick.here | apply Pick.skip | apply Pick.app); done); focus rfl) | (apply en_own; focus ((repeat' first | exact Pick.here | apply Pick.skip | apply Pick.app); done); focus rfl) | (apply en_pick; focus ((repeat' first | exact Pick.here | apply Pick.skip | apply Pick.app); done)) | apply en_drop | apply en_app) <;> fail)), fun _ s => s, ?_⟩
    refine RS_m retB_noPanic rfl rfl rfl rfl (ev_assign rfl) ?_
    refine RS_nil ?_
    (repeat first | refine G_seq ?_ | refine G_skip ?_ | refine G_endblk ?_ | refine G_block ?_ | refine G_exit rfl ?_)
    refine G_ret (L' := own 29 3 A21 (putP p (lo.pts ++ hi.pts)).length c21 (flat (putP p (lo.pts ++ hi.pts))) :: ptH (.node p s lo hi) (some ⟨b, 0, none⟩) :: L) rfl (.tmp rfl .nil) ?_ ⟨A21, c21, rfl, hA21, rfl⟩
    apply en_pick
    focus ((repeat' first | exact Pick.here | apply Pick.skip | apply Pick.app); done)
    apply en_pick
    focus ((repeat' first | exact Pick.here | apply Pick.skip | apply Pick.app); done)
    exact en_nodeI (by (repeat first | exact en_refl | (apply en_blk; focus ((repeat' first | exact Pick.here | apply Pick.skip | apply Pick.app); done); focus rfl) | (apply en_own; focus ((repeat' first | exact Pick.here | apply Pick.skip | apply Pick.app); done); focus rfl) | (apply en_pick; focus ((repeat' first | exact Pick.here | apply Pick.skip | apply Pick.app); done)) | apply en_drop | apply en_app) <;> fail)
end Go.Proofs.YtalcanejhniepaaGreat
/- Trees that are heaps by Y: what is built anew. -/
namespace Go.Proofs.YtalcanejhniepaaGreat
attribute [local irreducible] sat
set_option linter.unusedVariables false
set_option linter.unusedSimpArgs false
set_option maxRecDepth 100000

/-- No side of a node is too great. -/
def PT.Bal : PT → Prop
  | .nil => True
  | .node p s lo hi => lo.Bal ∧ hi.Bal ∧ max lo.size hi.size ≤ 3 * (lo.size + 1 + hi.size) / 4
/-- A tree of just these points, as it should be. -/
structure PT.Of (t : PT) (l : List Pt) : Prop where
  ok : t.Ok
  bal : t.Bal
  perm : t.els.Perm l
theorem PT.Of.size {t : PT} {l : List Pt} (h : t.Of l) : t.size = l.length := by rw [← t.els_length, h.perm.length_eq]
theorem PT.Of.congr {t : PT} {l m : List Pt} (h : t.Of l) (p : l.Perm m) : t.Of m := ⟨h.ok, h.bal, h.perm.trans p⟩
theorem PT.of_nil : PT.nil.Of [] := ⟨trivial, trivial, .refl _⟩
theorem PT.of_node {p s : Pt} {lo hi : PT} {l m : List Pt} (h1 : lo.Of l) (h2 : hi.Of m) (a : ∀ q ∈ l, beh q s = false) (b : ∀ q ∈ m, beh q s = true) (c : ∀ q ∈ l ++ m, und q p = true) (d : max l.length m.length ≤ 3 * (l.length + 1 + m.length) / 4) :
    (PT.node p s lo hi).Of (p :: (l ++ m)) := by
  refine ⟨⟨h1.ok, h2.ok, fun q hq => a q (h1.perm.subset hq), fun q hq => b q (h2.perm.subset hq), fun q hq => c q ((h1.perm.append h2.perm).subset hq)⟩, ⟨h1.bal, h2.bal, ?_⟩, (h1.perm.append h2.perm).cons p⟩
  rw [h1.size, h2.size]; exact d
/-- What a function leaves that makes a tree. -/
def MadeT (l : List Pt) (L : List HP) (v : Value) (L' : List HP) : Prop := ∃ (a : Option Addr) (t : PT), v = .pointer a ∧ t.Of l ∧ L' = ptH t a :: L
theorem asc_at {l : List Pt} (h : Asc l) {i j : Nat} {a b : Pt} (hi : l[i]? = some a) (hj : l[j]? = some b) (hij : i < j) : a.less b = true := by
  obtain ⟨h1, rfl⟩ := List.getElem?_eq_some_iff.1 hi
  obtain ⟨h2, rfl⟩ := List.getElem?_eq_some_iff.1 hj
  exact List.pairwise_iff_getElem.1 h i j h1 h2 hij
theorem asc_ne {l : List Pt} (h : Asc l) {i j : Nat} {a b : Pt} (hi : l[i]? = some a) (hj : l[j]? = some b) (hij : i ≠ j) : a ≠ b := fun e => by
  subst e
  rcases Nat.lt_or_ge i j with h' | h'
  · have := asc_at h hi hj h'; rw [Pt.less_irrefl] at this; cases this
  · have := asc_at h hj hi (by omega); rw [Pt.less_irrefl] at this; cases this
theorem del_perm {l : List Pt} {i : Nat} {p : Pt} (h : l[i]? = some p) : (p :: (l.take i ++ l.drop (i + 1))).Perm l := by
  obtain ⟨h1, rfl⟩ := List.getElem?_eq_some_iff.1 h
  have e : l = l.take i ++ l[i] :: l.drop (i + 1) := by
    rw [← List.drop_eq_getElem_cons h1, List.take_append_drop]
  conv => rhs; rw [e]
  exact List.perm_middle.symm
theorem del_sub {l : List Pt} {i : Nat} : (l.take i ++ l.drop (i + 1)).Sublist l := by
  have e : (l.take i ++ l.drop i) = l := List.take_append_drop i l
  conv => rhs; rw [← e]
  refine List.Sublist.append (.refl _) ?_
  rw [← List.drop_drop]
  exact List.drop_sublist _ _

theorem build_ctr : ∀ (f : Nat) (A : Option Addr) (n c : Nat) (l : List Pt) (L : List HP), Rd L A n l → n ≤ f → n ≤ 100000 → n ≤ c → c ≤ maxLen → Asc l → Ctr Tryz.prog 100 #[.slice A n c] L fun v L' => MadeT l L v L' := by
  intro f
  induction f with
  | zero =>
    intro A n c l L hl hf hn hc hc2 ho
    have h1 : l.length = n := hl.len (by decide)
    have h2 : l = [] := List.eq_nil_of_length_eq_zero (by omega)
    obtain rfl : n = 0 := by omega
    subst h2
    refine Ctr_of (fn := Tryz.f100) (n := 78) Tryz.func100 rfl rfl rfl ?_
    intro g F
    (repeat first | refine G_seq ?_ | refine G_skip ?_ | refine G_endblk ?_ | refine G_block ?_ | refine G_exit rfl ?_)
    refine G_region ?_
    refine GO_q rfl rfl (ev_assign rfl) ?_
    refine GO_nil ?_
    (repeat first | refine G_seq ?_ | refine G_skip ?_ | refine G_endblk ?_ | refine G_block ?_ | refine G_exit rfl ?_)
    refine G_region ?_
    refine GO_q rfl rfl (ev_move rfl) ?_
    refine GO_q rfl rfl (ev_len rfl) ?_
    refine GO_q rfl rfl (ev_eql rfl rfl) ?_
    refine GO_nil ?_
    (repeat first | refine G_seq ?_ | refine G_skip ?_ | refine G_endblk ?_ | refine G_block ?_ | refine G_exit rfl ?_)
    refine G_cond_t rfl rfl ?_
    (repeat first | refine G_seq ?_ | refine G_skip ?_ | refine G_endblk ?_ | refine G_block ?_ | refine G_exit rfl ?_)
    refine G_region ?_
    refine GO_q rfl rfl (ev_assign rfl) ?_
    refine GO_nil ?_
    (repeat first | refine G_seq ?_ | refine G_skip ?_ | refine G_endblk ?_ | refine G_block ?_ | refine G_exit rfl ?_)
    exact G_ret (L' := ptH .nil none :: L) rfl (.tmp rfl .nil) (en_keep (en_nilI en_refl)) ⟨none, .nil, rfl, PT.of_nil, rfl⟩
  | succ f ih =>
    intro A n c l L hl hf hn hc hc2 ho
    have h1 : l.length = n := hl.len (by decide)
    have hcb : c ≤ 9223372036854775807 := by unfold maxLen at hc2; omega
    refine Ctr_of (fn := Tryz.f100) (n := 78) Tryz.func100 rfl rfl rfl ?_
    intro g F
    (repeat first | refine G_seq ?_ | refine G_skip ?_ | refine G_endblk ?_ | refine G_block ?_ | refine G_exit rfl ?_)
    refine G_region ?_
    refine GO_q rfl rfl (ev_assign rfl) ?_
    refine GO_nil ?_
    (repeat first | refine G_seq ?_ | refine G_skip ?_ | refine G_endblk ?_ | refine G_block ?_ | refine G_exit rfl ?_)
    refine G_region ?_
    refine GO_q rfl rfl (ev_move rfl) ?_
    refine GO_q rfl rfl (ev_len rfl) ?_
    refine GO_q rfl rfl (ev_eql rfl rfl) ?_
    refine GO_nil ?_
    (repeat first | refine G_seq ?_ | refine G_skip ?_ | refine G_endblk ?_ | refine G_block ?_ | refine G_exit rfl ?_)
    refine G_cond rfl (fun c1 => ?_) (fun c1 => ?_)
    · have h2 : l = [] := List.eq_nil_of_length_eq_zero (by omega)
      subst h2
      (repeat first | refine G_seq ?_ | refine G_skip ?_ | refine G_endblk ?_ | refine G_block ?_ | refine G_exit rfl ?_)
      refine G_region ?_
      refine GO_q rfl rfl (ev_assign rfl) ?_
      refine GO_nil ?_
      (repeat first | refine G_seq ?_ | refine G_skip ?_ | refine G_endblk ?_ | refine G_block ?_ | refine G_exit rfl ?_)
      exact G_ret (L' := ptH .nil none :: L) rfl (.tmp rfl .nil) (en_keep (en_nilI en_refl)) ⟨none, .nil, rfl, PT.of_nil, rfl⟩
    · (repeat first | refine G_seq ?_ | refine G_skip ?_ | refine G_endblk ?_ | refine G_block ?_ | refine G_exit rfl ?_)
      refine G_region ?_
      refine GO_q rfl rfl (ev_assign rfl) ?_
      refine GO_nil ?_
      (repeat first | refine G_seq ?_ | refine G_skip ?_ | refine G_endblk ?_ | refine G_block ?_ | refine G_exit rfl ?_)
      refine G_region ?_
      refine GO_q rfl rfl (ev_move rfl) ?_
      refine GO_q rfl rfl (ev_len rfl) ?_
      refine GO_q rfl rfl (ev_move rfl) ?_
      refine GO_nil ?_
      (repeat first | refine G_seq ?_ | refine G_skip ?_ | refine G_endblk ?_)
      refine G_cut (ι := Nat) (fun x => [(0, .slice A n c), (3, .int .i64 (x : Nat))]) (fun _ => F :: L) (fun x => x < n ∧ ∀ (j : Nat) (a b : Pt), l[j]? = some a → l[x]? = some b → j = x ∨ und a b = true) ?_ ?_
      · (repeat first | refine G_seq ?_ | refine G_skip ?_ | refine G_endblk ?_ | refine G_block ?_ | refine G_exit rfl ?_)
        refine G_loop (ι := Nat × Nat) (fun x => [(0, .slice A n c), (3, .int .i64 (x.2 : Nat)), (13, .slice A n c), (14, .int .i64 (n : Nat)), (15, .int .i64 (x.1 : Nat))]) (fun _ => F :: L) (fun x => x.1 ≤ n ∧ x.2 < n ∧ ∀ (j : Nat) (a b : Pt), j < x.1 → l[j]? = some a → l[x.2]? = some b → j = x.2 ∨ und a b = true) (fun x => n - x.1) (0, 0) ⟨Nat.zero_le _, by simp only; omega, fun j a b hj => absurd hj (Nat.not_lt_zero _)⟩ ⟨rfl, rfl, rfl, rfl, rfl, trivial⟩ (by (repeat first | exact fun _ s => s | apply en_keep | apply en_drop | apply en_app) <;> fail) ?_
        rintro ⟨k, top⟩ ⟨f1, f2, f3⟩
        simp only at f1 f2 f3
        dsimp only
        (repeat first | refine G_seq ?_ | refine G_skip ?_ | refine G_endblk ?_ | refine G_block ?_ | refine G_exit rfl ?_)
        refine G_region ?_
        (first | refine GO_q rfl rfl (ev_lssN rfl rfl) ?_ | refine GO_q rfl rfl (ev_lss rfl rfl) ?_)
        refine GO_nil ?_
        (repeat first | refine G_seq ?_ | refine G_skip ?_ | refine G_endblk ?_ | refine G_block ?_ | refine G_exit rfl ?_)
        refine G_cond rfl (fun c2 => ?_) (fun c2 => ?_)
        · obtain ⟨lb, lo, rfl, hx⟩ := hl.at_ (by omega)
          have g1 : l[k]? = some l[k] := List.getElem?_eq_getElem (by omega)
          have g2 : l[top]? = some l[top] := List.getElem?_eq_getElem (by omega)
          have y1 := hx _ _ g1
          have y2 := hx _ _ g2
          generalize l[k] = u at *
          generalize l[top] = t at *
          have z1 : LdN L lb (lo + k * 3) 3 [.int .i64 u.id, .int .i64 u.x, .int .i64 u.y] := y1
          have z2 : LdN L lb (lo + top * 3) 3 [.int .i64 t.id, .int .i64 t.x, .int .i64 t.y] := y2
          (repeat first | refine G_seq ?_ | refine G_skip ?_ | refine G_endblk ?_ | refine G_block ?_ | refine G_exit rfl ?_)
          refine G_region ?_
          refine GO_q rfl rfl (ev_move rfl) ?_
          (first | refine GO_q rfl rfl (ev_indexAddrN rfl rfl (by first | omega | (simp; done) | (simp; omega))) ?_ | refine GO_q rfl rfl (ev_indexAddr rfl rfl (by first | omega | (simp; done) | (simp; omega)) (by first | omega | (simp; done) | (simp; omega))) ?_)
          refine GO_q rfl rfl (ev_loadN rfl (by repeat' first | exact LdN.blk rfl | assumption | apply LdN.skip | apply LdN.app)) ?_
          refine GO_eff rfl rfl eff_alloc ?_; rintro _ _ ⟨b5, rfl, rfl⟩
          refine GO_q rfl rfl (ev_assign rfl) ?_
          refine GO_eff rfl rfl (eff_storeN rfl rfl rfl rfl (by repeat' first | exact Upd.here rfl | apply Upd.skip | apply Upd.app)) ?_; rintro _ _ ⟨rfl, rfl⟩
          refine GO_nil ?_
          (repeat first | refine G_seq ?_ | refine G_skip ?_ | refine G_endblk ?_ | refine G_block ?_ | refine G_exit rfl ?_)
          refine G_draw (.q 0 (.q 1 (.q 2 (.q 3 (.q 4 (.e 5 .nil)))))) (by kernel_rfl) (by kernel_rfl) ?_
          refine RS_m retB_noPanic rfl rfl rfl rfl (ev_move rfl) ?_
          refine RS_m retB_noPanic rfl rfl rfl rfl (ev_move rfl) ?_
          (first | refine RS_m retB_noPanic rfl rfl rfl rfl (ev_indexAddrN rfl rfl (by first | omega | (simp; done) | (simp; omega))) ?_ | refine RS_m retB_noPanic rfl rfl rfl rfl (ev_indexAddr rfl rfl (by first | omega | (simp; done) | (simp; omega)) (by first | omega | (simp; done) | (simp; omega))) ?_)
          refine RS_q retB_noPanic rfl rfl rfl rfl (ev_loadN rfl (by repeat' first | exact LdN.blk rfl | assumption | apply LdN.skip | apply LdN.app)) ?_
          refine RS_q retB_noPanic rfl rfl rfl rfl (ev_loadN rfl (by repeat' first | exact LdN.blk rfl | assumption | apply LdN.skip | apply LdN.app)) ?_
          refine RS_e (RE_last (by kernel_rfl) rfl rfl rfl (eff_call rfl (under_ctr t u _)) ?_); rintro _ _ ⟨rfl, rfl⟩
          (repeat first | refine G_seq ?_ | refine G_skip ?_ | refine G_endblk ?_ | refine G_block ?_ | refine G_exit rfl ?_)
          refine G_condB rfl (fun c3 => ?_) (fun c3 => ?_)
          · (repeat first | refine G_seq ?_ | refine G_skip ?_ | refine G_endblk ?_ | refine G_block ?_ | refine G_exit rfl ?_)
            refine G_region ?_
            refine GO_q rfl rfl (ev_move rfl) ?_
            refine GO_q rfl rfl (ev_assign rfl) ?_
            refine GO_nil ?_
            (repeat first | refine G_seq ?_ | refine G_skip ?_ | refine G_endblk ?_ | refine G_block ?_ | refine G_exit rfl ?_)
            refine G_region ?_
            (first | refine GO_q rfl rfl (ev_addN (q := 1) rfl rfl (by first | omega | (simp; done) | (simp; omega))) ?_ | refine GO_q rfl rfl (ev_add rfl rfl (by first | omega | (simp; done) | (simp; omega))) ?_)
            refine GO_q rfl rfl (ev_move rfl) ?_
            refine GO_nil ?_
            (repeat first | refine G_seq ?_ | refine G_skip ?_ | refine G_endblk ?_ | refine G_block ?_ | refine G_exit rfl ?_)
            refine G_round (k + 1, k) ⟨by simp only; omega, by simp only; omega, fun j a b hj ha hb => ?_⟩ (by simp only; omega) ⟨rfl, rfl, rfl, rfl, rfl, trivial⟩ (by (repeat first | exact fun _ s => s | apply en_keep | apply en_drop | apply en_app) <;> fail)
            simp only at hj hb
            rw [g1] at hb; cases hb
            rcases Nat.lt_or_ge j k with h' | h'
            · right
              rcases f3 j a t h' ha g2 with rfl | h9
              · rw [g2] at ha; cases ha; exact c3
              · exact und_trans h9 c3
            · left; omega
          · (repeat first | refine G_seq ?_ | refine G_skip ?_ | refine G_endblk ?_ | refine G_block ?_ | refine G_exit rfl ?_)
            refine G_region ?_
            (first | refine GO_q rfl rfl (ev_addN (q := 1) rfl rfl (by first | omega | (simp; done) | (simp; omega))) ?_ | refine GO_q rfl rfl (ev_add rfl rfl (by first | omega | (simp; done) | (simp; omega))) ?_)
            refine GO_q rfl rfl (ev_move rfl) ?_
            refine GO_nil ?_
            (repeat first | refine G_seq ?_ | refine G_skip ?_ | refine G_endblk ?_ | refine G_block ?_ | refine G_exit rfl ?_)
            refine G_round (k + 1, top) ⟨by simp only; omega, f2, fun j a b hj ha hb => ?_⟩ (by simp only; omega) ⟨rfl, rfl, rfl, rfl, rfl, trivial⟩ (by (repeat first | exact fun _ s => s | apply en_keep | apply en_drop | apply en_app) <;> fail)
            simp only at hj hb
            rw [g2] at hb; cases hb
            rcases Nat.lt_or_ge j k with h' | h'
            · exact f3 j a t h' ha g2
            · have : j = k := by omega
              subst this
              rw [g1] at ha; cases ha
              by_cases e : j = top
              · exact .inl e
              · exact .inr (und_total (asc_ne ho g2 g1 (Ne.symm e)) c3)
        · have e : k = n := by omega
          subst e
          (repeat first | refine G_seq ?_ | refine G_skip ?_ | refine G_endblk ?_ | refine G_block ?_ | refine G_exit rfl ?_)
          exact G_inv top ⟨f2, fun j a b ha hb => f3 j a b (by have := (List.getElem?_eq_some_iff.1 ha).1; omega) ha hb⟩ ⟨rfl, rfl, trivial⟩ (by (repeat first | exact fun _ s => s | apply en_keep | apply en_drop | apply en_app) <;> fail)
      · rintro top ⟨f2, f3⟩
        obtain ⟨lb, lo, rfl, hx⟩ := hl.at_ (by omega)
        have g2 : l[top]? = some l[top] := List.getElem?_eq_getElem (by omega)
        have y2 := hx _ _ g2
        have hperm := del_perm g2
        have hsub := del_sub (l := l) (i := top)
        have hund : ∀ q ∈ l.take top ++ l.drop (top + 1), und q l[top] = true := fun q hq => by
          obtain ⟨j, hj⟩ := List.mem_iff_getElem?.1 (hsub.subset hq)
          rcases f3 j q _ hj g2 with rfl | h9
          · rw [g2] at hj; cases hj
            have hnd := (hperm.nodup_iff.2 ho.nodup)
            rw [List.nodup_cons] at hnd
            exact absurd hq hnd.1
          · exact h9
        have hro := ho.sub hsub
        have hrl : (l.take top ++ l.drop (top + 1)).length = n - 1 := by simp; omega
        generalize l[top] = p at *
        have z2 : LdN L lb (lo + top * 3) 3 [.int .i64 p.id, .int .i64 p.x, .int .i64 p.y] := y2
        (repeat first | refine G_seq ?_ | refine G_skip ?_ | refine G_endblk ?_ | refine G_block ?_ | refine G_exit rfl ?_)
        refine G_draw (.q 0 (.q 1 (.q 2 (.q 3 (.q 4 (.q 5 (.q 6 (.q 7 (.q 8 (.e 9 (.q 10 .nil))))))))))) (by kernel_rfl) (by kernel_rfl) ?_
        refine RS_m retB_noPanic rfl rfl rfl rfl (ev_move rfl) ?_
        refine RS_m retB_noPanic rfl rfl rfl rfl (ev_move rfl) ?_
        (first | refine RS_m retB_noPanic rfl rfl rfl rfl (ev_indexAddrN rfl rfl (by first | omega | (simp; done) | (simp; omega))) ?_ | refine RS_m retB_noPanic rfl rfl rfl rfl (ev_indexAddr rfl rfl (by first | omega | (simp; done) | (simp; omega)) (by first | omega | (simp; done) | (simp; omega))) ?_)
        refine RS_q retB_noPanic rfl rfl rfl rfl (ev_loadN rfl (by repeat' first | exact LdN.blk rfl | assumption | apply LdN.skip | apply LdN.app)) ?_
        refine RS_m retB_noPanic rfl rfl rfl rfl (ev_move rfl) ?_
        refine RS_m retB_noPanic rfl rfl rfl rfl (ev_move rfl) ?_
        (first | refine RS_m retB_noPanic rfl rfl rfl rfl (ev_indexAddrN rfl rfl (by first | omega | (simp; done) | (simp; omega))) ?_ | refine RS_m retB_noPanic rfl rfl rfl rfl (ev_indexAddr rfl rfl (by first | omega | (simp; done) | (simp; omega)) (by first | omega | (simp; done) | (simp; omega))) ?_)
        refine RS_q retB_noPanic rfl rfl rfl rfl (ev_loadN rfl (by repeat' first | exact LdN.blk rfl | assumption | apply LdN.skip | apply LdN.app)) ?_
        refine RS_m retB_noPanic rfl rfl rfl rfl (ev_build rfl rfl) ?_
        refine RS_e (RE_eff rfl rfl rfl (eff_box rfl) ?_); rintro _ _ ⟨b37, rfl, rfl⟩; refine ⟨_, fun _ s => s, (by first | ((repeat first | exact fun _ s => s | apply en_keep | apply en_drop | apply en_app) <;> fail) | ((repeat first | exact en_refl | (apply en_blk; focus ((repeat' first | exact Pick.here | apply Pick.skip | apply Pick.app); done); focus rfl) | (apply en_own; focus ((repeat' first | exact Pick.here | apply Pick.skip | apply Pick.app); done); focus rfl) | (apply en_pick; focus ((repeat' first | exact Pick.here | apply Pick.skip | apply Pick.app); done)) | apply en_drop | apply en_app) <;> fail)), ?_⟩
        refine RS_m retB_noPanic rfl rfl rfl rfl (ev_assign rfl) ?_
        refine RS_nil ?_
        (repeat first | refine G_seq ?_ | refine G_skip ?_ | refine G_endblk ?_ | refine G_block ?_ | refine G_exit rfl ?_)
        refine G_region ?_
        refine GO_q rfl rfl (ev_move rfl) ?_
        refine GO_eff rfl rfl (eff_call rfl (Clone_ctr (some ⟨lb, lo, none⟩) n c l _ (by repeat' first | exact Rc.blk rfl | assumption | apply Rd.skip | apply Rd.app) (by omega))) ?_; rintro _ _ ⟨A39, c39, rfl, hA39, rfl⟩; obtain ⟨b39, rfl⟩ := hA39 (by omega)
        refine GO_q rfl rfl (ev_move rfl) ?_
        refine GO_q rfl rfl (ev_move rfl) ?_
        (first | refine GO_q rfl rfl (ev_addN (q := 1) rfl rfl (by first | omega | (simp; done) | (simp; omega))) ?_ | refine GO_q rfl rfl (ev_add rfl rfl (by first | omega | (simp; done) | (simp; omega))) ?_)
        refine GO_eff rfl rfl (eff_call rfl (Ctr.pick (by repeat' first | exact Pick.here | apply Pick.skip | apply Pick.app) (Ctr.made (Delete_ctr b39 _ c39 top l _ rfl (by omega) (by omega))))) ?_; rintro _ _ ⟨A43, c43, rfl, hA43, q2, q3, rfl⟩
        refine GO_q rfl rfl (ev_assign rfl) ?_
        refine GO_nil ?_
        obtain ⟨rest, hrest⟩ : ∃ r, l.take top ++ l.drop (top + 1) = r := ⟨_, rfl⟩
        rw [hrest] at hperm hund hro hrl hA43 q2
        rw [hrest]
        clear hsub hrest
        (repeat first | refine G_seq ?_ | refine G_skip ?_ | refine G_endblk ?_ | refine G_block ?_ | refine G_exit rfl ?_)
        refine G_region ?_
        refine GO_q rfl rfl (ev_move rfl) ?_
        refine GO_q rfl rfl (ev_len rfl) ?_
        (first | refine GO_q rfl rfl (ev_quoN (q := 2) rfl rfl (by first | omega | (simp; done) | (simp; omega)) (by first | omega | (simp; done) | (simp; omega))) ?_ | refine GO_q rfl rfl (ev_quo rfl rfl (by first | omega | (simp; done) | (simp; omega)) (by first | omega | (simp; done) | (simp; omega)) (by first | omega | (simp; done) | (simp; omega))) ?_)
        refine GO_q rfl rfl (ev_assign rfl) ?_
        refine GO_nil ?_
        (repeat first | refine G_seq ?_ | refine G_skip ?_ | refine G_endblk ?_ | refine G_block ?_ | refine G_exit rfl ?_)
        refine G_region ?_
        refine GO_q rfl rfl (ev_move rfl) ?_
        refine GO_q rfl rfl (ev_len rfl) ?_
        refine GO_q rfl rfl (ev_gtr rfl rfl) ?_
        refine GO_nil ?_
        (repeat first | refine G_seq ?_ | refine G_skip ?_ | refine G_endblk ?_ | refine G_block ?_ | refine G_exit rfl ?_)
        refine G_cond rfl (fun c4 => ?_) (fun c4 => ?_)
        · obtain ⟨b43, rfl⟩ := hA43 (by omega)
          (repeat first | refine G_seq ?_ | refine G_skip ?_ | refine G_endblk ?_ | refine G_block ?_ | refine G_exit rfl ?_)
          refine G_region ?_
          refine GO_q rfl rfl (ev_move rfl) ?_
          (first | refine GO_q rfl rfl (ev_subN (q := 1) rfl rfl (by first | omega | (simp; done) | (simp; omega))) ?_ | refine GO_q rfl rfl (ev_sub rfl rfl (by first | omega | (simp; done) | (simp; omega))) ?_)
          refine GO_q rfl rfl (ev_max rfl rfl) ?_
          refine GO_q rfl rfl (ev_assign rfl) ?_
          refine GO_nil ?_
          obtain ⟨at_, hat⟩ : ∃ k : Nat, max (((rest.length / 2 : Nat) : Int) - 1) 0 = (k : Nat) := ⟨rest.length / 2 - 1, by omega⟩
          rw [hat]
          have hat2 : at_ < rest.length := by omega
          have hat3 : at_ = rest.length / 2 - 1 := by omega
          have hfull : ∀ L', Rd (own 29 3 (some ⟨b43, 0, none⟩) rest.length c43 (flat rest) :: L') (some ⟨b43, 0, none⟩) rest.length rest := fun L' => Rc.own (flat_length _) (fun _ => ⟨b43, rfl⟩)
          have g3 : rest[at_]? = some rest[at_] := List.getElem?_eq_getElem hat2
          have y3 : ∀ L', LdN (own 29 3 (some ⟨b43, 0, none⟩) rest.length c43 (flat rest) :: L') b43 (0 + at_ * 3) 3 [.int .i64 rest[at_].id, .int .i64 rest[at_].x, .int .i64 rest[at_].y] := fun L' => by
            obtain ⟨b9, o9, e9, hx9⟩ := (hfull L').at_ (by omega)
            cases e9
            exact hx9 _ _ g3
          have hlo : ∀ q ∈ rest.take (at_ + 1), beh q rest[at_] = false := fun q hq => by
            obtain ⟨j, hj⟩ := List.mem_iff_getElem?.1 hq
            rw [List.getElem?_take] at hj
            split at hj
            · rw [beh_false]
              rcases Nat.lt_or_ge j at_ with h' | h'
              · exact Pt.less_asymm (asc_at hro hj g3 h')
              · have : j = at_ := by omega
                subst this
                rw [g3] at hj; cases hj
                exact Pt.less_irrefl _
            · cases hj
          have hhi : ∀ q ∈ rest.drop (at_ + 1), beh q rest[at_] = true := fun q hq => by
            obtain ⟨j, hj⟩ := List.mem_iff_getElem?.1 hq
            rw [List.getElem?_drop] at hj
            rw [beh_true]
            exact asc_at hro g3 hj (by omega)
          generalize rest[at_] = s at *
          (repeat first | refine G_seq ?_ | refine G_skip ?_ | refine G_endblk ?_ | refine G_block ?_ | refine G_exit rfl ?_)
          refine G_region ?_
          refine GO_q rfl rfl (ev_move rfl) ?_
          refine GO_q rfl rfl (ev_move rfl) ?_
          refine GO_q rfl rfl (ev_move rfl) ?_
          (first | refine GO_q rfl rfl (ev_indexAddrN rfl rfl (by first | omega | (simp; done) | (simp; omega))) ?_ | refine GO_q rfl rfl (ev_indexAddr rfl rfl (by first | omega | (simp; done) | (simp; omega)) (by first | omega | (simp; done) | (simp; omega))) ?_)
          refine GO_q rfl rfl (ev_loadN rfl (by repeat' first | exact y3 _ | apply LdN.skip)) ?_
          (first | refine GO_q rfl rfl (ev_nilCheck rfl) ?_ | refine GO_q rfl rfl (ev_nilCheckF (by simp) rfl) ?_)
          refine GO_q rfl rfl (ev_fieldAddr rfl) ?_
          refine GO_eff rfl rfl (eff_storeN rfl rfl rfl rfl (by repeat' first | exact Upd.here rfl | apply Upd.skip | apply Upd.app)) ?_; rintro _ _ ⟨rfl, rfl⟩
          refine GO_nil ?_
          have q5 : c43 ≤ 9223372036854775807 := by unfold maxLen at q3; omega
          have tl : (rest.take (at_ + 1)).length = at_ + 1 := by rw [List.length_take]; omega
          have tr : (rest.drop (at_ + 1)).length = rest.length - (at_ + 1) := List.length_drop ..
          have hlo2 : ∀ L', Rd (own 29 3 (some ⟨b43, 0, none⟩) rest.length c43 (flat rest) :: L') (some ⟨b43, 0, none⟩) (at_ + 1) (rest.take (at_ + 1)) := fun L' => (hfull L').take (by omega)
          have hhi2 : ∀ L', Rd (own 29 3 (some ⟨b43, 0, none⟩) rest.length c43 (flat rest) :: L') (some ⟨b43, (if c43 = at_ + 1 then 0 else 0 + (at_ + 1) * 3), none⟩) (rest.length - (at_ + 1)) (rest.drop (at_ + 1)) := fun L' => (hfull L').drop (by omega) q2
          (repeat first | refine G_seq ?_ | refine G_skip ?_ | refine G_endblk ?_ | refine G_block ?_ | refine G_exit rfl ?_)
          refine G_drawE 1 (.q 0 (.q 1 (.q 2 (.q 3 (.q 4 (.q 5 (.q 7 (.q 8 (.q 9 (.q 10 (.e 6 (.e 11 (.q 12 (.q 13 (.e 14 (.q 15 (.q 16 (.e 17 .nil)))))))))))))))))) (by kernel_rfl) (by kernel_rfl) ?_
          refine RS_m retB_noPanic rfl rfl rfl rfl (ev_move rfl) ?_
          refine RS_m retB_noPanic rfl rfl rfl rfl (ev_move rfl) ?_
          refine RS_m retB_noPanic rfl rfl rfl rfl (ev_move rfl) ?_
          refine RS_m retB_noPanic rfl rfl rfl rfl (ev_move rfl) ?_
          (first | refine RS_m retB_noPanic rfl rfl rfl rfl (ev_addN (q := 1) rfl rfl (by first | omega | (simp; done) | (simp; omega))) ?_ | refine RS_m retB_noPanic rfl rfl rfl rfl (ev_add rfl rfl (by first | omega | (simp; done) | (simp; omega))) ?_)
          refine RS_q retB_noPanic rfl rfl rfl rfl (ev_sliceH rfl rfl (by first | omega | (simp; done) | (simp; omega))) ?_
          refine RS_m retB_noPanic rfl rfl rfl rfl (ev_move rfl) ?_
          refine RS_m retB_noPanic rfl rfl rfl rfl (ev_move rfl) ?_
          (first | refine RS_m retB_noPanic rfl rfl rfl rfl (ev_addN (q := 1) rfl rfl (by first | omega | (simp; done) | (simp; omega))) ?_ | refine RS_m retB_noPanic rfl rfl rfl rfl (ev_add rfl rfl (by first | omega | (simp; done) | (simp; omega))) ?_)
          refine RS_q retB_noPanic rfl rfl rfl rfl (ev_sliceL rfl rfl (by first | omega | (simp; done) | (simp; omega)) (by first | omega | (simp; done) | (simp; omega))) ?_
          refine RS_e (RE_eff rfl rfl rfl (eff_call rfl (ih _ (at_ + 1) c43 (rest.take (at_ + 1)) _ (by repeat' first | exact hlo2 _ | apply Rd.skip) (by omega) (by omega) (by omega) q3 (hro.sub (List.take_sublist _ _)))) ?_); rintro _ _ ⟨al, tlo, rfl, ol, rfl⟩; refine ⟨_, (by first | ((repeat first | exact fun _ s => s | apply en_keep | apply en_drop | apply en_app) <;> fail) | ((repeat first | exact en_refl | (apply en_blk; focus ((repeat' first | exact Pick.here | apply Pick.skip | apply Pick.app); done); focus rfl) | (apply en_own; focus ((repeat' first | exact Pick.here | apply Pick.skip | apply Pick.app); done); focus rfl) | (apply en_pick; focus ((repeat' first | exact Pick.here | apply Pick.skip | apply Pick.app); done)) | apply en_drop | apply en_app) <;> fail)), fun _ s => s, ?_⟩
          refine RS_e (RE_eff rfl rfl rfl (eff_call rfl (ih _ (rest.length - (at_ + 1)) (c43 - (at_ + 1)) (rest.drop (at_ + 1)) _ (by repeat' first | exact hhi2 _ | apply Rd.skip) (by omega) (by omega) (by omega) (by omega) (hro.sub (List.drop_sublist _ _)))) ?_); rintro _ _ ⟨ah, thi, rfl, oh, rfl⟩; refine ⟨_, (by first | ((repeat first | exact fun _ s => s | apply en_keep | apply en_drop | apply en_app) <;> fail) | ((repeat first | exact en_refl | (apply en_blk; focus ((repeat' first | exact Pick.here | apply Pick.skip | apply Pick.app); done); focus rfl) | (apply en_own; focus ((repeat' first | exact Pick.here | apply Pick.skip | apply Pick.app); done); focus rfl) | (apply en_pick; focus ((repeat' first | exact Pick.here | apply Pick.skip | apply Pick.app); done)) | apply en_drop | apply en_app) <;> fail)), fun _ s => s, ?_⟩
          (first | refine RS_m retB_noPanic rfl rfl rfl rfl (ev_nilCheck rfl) ?_ | refine RS_m retB_noPanic rfl rfl rfl rfl (ev_nilCheckF (by simp) rfl) ?_)
          refine RS_m retB_noPanic rfl rfl rfl rfl (ev_fieldAddr rfl) ?_
          refine RS_e (RE_cmp (by kernel_rfl) rfl rfl rfl (eff_store rfl rfl rfl (by repeat' first | exact Upd.here rfl | apply Upd.skip | apply Upd.app)) ?_); rintro _ _ ⟨rfl, rfl⟩
          (first | refine RS_m retB_noPanic rfl rfl rfl rfl (ev_nilCheck rfl) ?_ | refine RS_m retB_noPanic rfl rfl rfl rfl (ev_nilCheckF (by simp) rfl) ?_)
          refine RS_m retB_noPanic rfl rfl rfl rfl (ev_fieldAddr rfl) ?_
          refine RS_e (RE_last (by kernel_rfl) rfl rfl rfl (eff_store rfl rfl rfl (by repeat' first | exact Upd.here rfl | apply Upd.skip | apply Upd.app)) ?_); rintro _ _ ⟨rfl, rfl⟩
          (repeat first | refine G_seq ?_ | refine G_skip ?_ | refine G_endblk ?_ | refine G_block ?_ | refine G_exit rfl ?_)
          refine G_region ?_
          refine GO_q rfl rfl (ev_move rfl) ?_
          refine GO_eff rfl rfl (eff_call rfl (Ctr.pre (M := blk b37 108 (nodeC p s al ah 0) :: ptH tlo al :: ptH thi ah :: F :: L) (by (repeat first | exact en_refl | (apply en_blk; focus ((repeat' first | exact Pick.here | apply Pick.skip | apply Pick.app); done); focus rfl) | (apply en_own; focus ((repeat' first | exact Pick.here | apply Pick.skip | apply Pick.app); done); focus rfl) | (apply en_pick; focus ((repeat' first | exact Pick.here | apply Pick.skip | apply Pick.app); done)) | apply en_drop | apply en_app) <;> fail) (note_ctr p s tlo thi b37 0 al ah _ (by rw [ol.size, oh.size, tl, tr]; omega)))) ?_; rintro _ _ ⟨rfl, rfl⟩
          refine GO_q rfl rfl (ev_assign rfl) ?_
          refine GO_nil ?_
          (repeat first | refine G_seq ?_ | refine G_skip ?_ | refine G_endblk ?_ | refine G_block ?_ | refine G_exit rfl ?_)
          refine G_ret (L' := ptH (.node p s tlo thi) (some ⟨b37, 0, none⟩) :: L) rfl (.tmp rfl .nil) (by (repeat first | exact en_refl | (apply en_blk; focus ((repeat' first | exact Pick.here | apply Pick.skip | apply Pick.app); done); focus rfl) | (apply en_own; focus ((repeat' first | exact Pick.here | apply Pick.skip | apply Pick.app); done); focus rfl) | (apply en_pick; focus ((repeat' first | exact Pick.here | apply Pick.skip | apply Pick.app); done)) | apply en_drop | apply en_app) <;> fail) ⟨_, .node p s tlo thi, rfl, ?_, rfl⟩
          refine (PT.of_node ol oh hlo hhi (fun q hq => hund q (by rwa [List.take_append_drop] at hq)) (by rw [tl, tr]; omega)).congr ?_
          rw [List.take_append_drop]
          exact hperm
        · have hr0 : rest = [] := List.eq_nil_of_length_eq_zero (by omega)
          (repeat first | refine G_seq ?_ | refine G_skip ?_ | refine G_endblk ?_ | refine G_block ?_ | refine G_exit rfl ?_)
          refine G_region ?_
          refine GO_q rfl rfl (ev_move rfl) ?_
          refine GO_eff rfl rfl (eff_call rfl (Ctr.pre (M := blk b37 108 (nodeC p p none none 0) :: ptH .nil none :: ptH .nil none :: F :: L) (by (repeat first | exact en_refl | apply en_nilI | (apply en_blk; focus ((repeat' first | exact Pick.here | apply Pick.skip | apply Pick.app); done); focus rfl) | (apply en_own; focus ((repeat' first | exact Pick.here | apply Pick.skip | apply Pick.app); done); focus rfl) | (apply en_pick; focus ((repeat' first | exact Pick.here | apply Pick.skip | apply Pick.app); done)) | apply en_drop | apply en_app) <;> fail) (note_ctr p p .nil .nil b37 0 none none _ (by decide)))) ?_; rintro _ _ ⟨rfl, rfl⟩
          refine GO_q rfl rfl (ev_assign rfl) ?_
          refine GO_nil ?_
          (repeat first | refine G_seq ?_ | refine G_skip ?_ | refine G_endblk ?_ | refine G_block ?_ | refine G_exit rfl ?_)
          refine G_ret (L' := ptH (.node p p .nil .nil) (some ⟨b37, 0, none⟩) :: L) rfl (.tmp rfl .nil) (by (repeat first | exact en_refl | (apply en_blk; focus ((repeat' first | exact Pick.here | apply Pick.skip | apply Pick.app); done); focus rfl) | (apply en_own; focus ((repeat' first | exact Pick.here | apply Pick.skip | apply Pick.app); done); focus rfl) | (apply en_pick; focus ((repeat' first | exact Pick.here | apply Pick.skip | apply Pick.app); done)) | apply en_drop | apply en_app) <;> fail) ⟨_, .node p p .nil .nil, rfl, ?_, rfl⟩
          refine (PT.of_node PT.of_nil PT.of_nil (fun _ h => by cases h) (fun _ h => by cases h) (fun _ h => by cases h) (by decide)).congr ?_
          rw [hr0] at hperm
          exact hperm
end Go.Proofs.YtalcanejhniepaaGreat
/- Trees that are heaps by Y: even, put. -/
namespace Go.Proofs.YtalcanejhniepaaGreat
attribute [local irreducible] sat
set_option linter.unusedVariables false
set_option linter.unusedSimpArgs false
set_option maxRecDepth 100000

theorem even_ctr (p s : Pt) (lo hi : PT) (b m : Nat) (al ah : Option Addr) (l : List Pt) (L : List HP) (hok : (PT.node p s lo hi).Ok) (b1 : lo.Bal) (b2 : hi.Bal) (hsz : lo.size + hi.size + 1 ≤ 100000) (hl : (PT.node p s lo hi).els.Perm l) :
    Ctr Tryz.prog 75 #[.pointer (some ⟨b, 0, none⟩)] (blk b 108 (nodeC p s al ah m) :: ptH lo al :: ptH hi ah :: L) fun v L' => MadeT l L v L' := by
  have hpl := (PT.node p s lo hi).pts_length
  have hpa := PT.pts_asc hok
  have hpp := (PT.node p s lo hi).pts_perm
  rw [PT.size_node] at hpl
  refine Ctr_of (fn := Tryz.f75) (n := 10) Tryz.func75 rfl rfl rfl ?_
  intro g F
  (repeat first | refine G_seq ?_ | refine G_skip ?_ | refine G_endblk ?_ | refine G_block ?_ | refine G_exit rfl ?_)
  refine G_region ?_
  refine GO_q rfl rfl (ev_assign rfl) ?_
  refine GO_nil ?_
  (repeat first | refine G_seq ?_ | refine G_skip ?_ | refine G_endblk ?_ | refine G_block ?_ | refine G_exit rfl ?_)
  refine G_region ?_
  refine GO_q rfl rfl (ev_move rfl) ?_
  refine GO_eff rfl rfl (eff_call rfl (Ctr.pre (M := blk b 108 (nodeC p s al ah m) :: ptH lo al :: ptH hi ah :: F :: L) (by (repeat first | exact en_refl | (apply en_blk; focus ((repeat' first | exact Pick.here | apply Pick.skip | apply Pick.app); done); focus rfl) | (apply en_own; focus ((repeat' first | exact Pick.here | apply Pick.skip | apply Pick.app); done); focus rfl) | (apply en_pick; focus ((repeat' first | exact Pick.here | apply Pick.skip | apply Pick.app); done)) | apply en_drop | apply en_app) <;> fail) (note_ctr p s lo hi b m al ah _ (by omega)))) ?_; rintro _ _ ⟨rfl, rfl⟩
  refine GO_eff rfl rfl (eff_call rfl (heavy_ctr p s lo hi _ _ (by omega))) ?_; rintro _ _ ⟨rfl, rfl⟩
  refine GO_nil ?_
  (repeat first | refine G_seq ?_ | refine G_skip ?_ | refine G_endblk ?_ | refine G_block ?_ | refine G_exit rfl ?_)
  refine G_condB rfl (fun h1 => ?_) (fun h1 => ?_)
  · (repeat first | refine G_seq ?_ | refine G_skip ?_ | refine G_endblk ?_ | refine G_block ?_ | refine G_exit rfl ?_)
    refine G_region ?_
    refine GO_q rfl rfl (ev_move rfl) ?_
    refine GO_eff rfl rfl (eff_call rfl (points_ctr (.node p s lo hi) _ _ hok (by rw [PT.size_node]; omega) |>.made)) ?_; rintro _ _ ⟨A7, c7, rfl, hA7, q2, q3, rfl⟩
    refine GO_eff rfl rfl (eff_call rfl (build_ctr 100000 A7 _ c7 _ _ (Rc.own (flat_length _) hA7) (by omega) (by omega) q2 q3 hpa)) ?_; rintro _ _ ⟨a8, t8, rfl, o8, rfl⟩
    refine GO_q rfl rfl (ev_assign rfl) ?_
    refine GO_nil ?_
    (repeat first | refine G_seq ?_ | refine G_skip ?_ | refine G_endblk ?_ | refine G_block ?_ | refine G_exit rfl ?_)
    exact G_ret (L' := ptH t8 a8 :: L) rfl (.tmp rfl .nil) (by (repeat first | exact en_refl | (apply en_blk; focus ((repeat' first | exact Pick.here | apply Pick.skip | apply Pick.app); done); focus rfl) | (apply en_own; focus ((repeat' first | exact Pick.here | apply Pick.skip | apply Pick.app); done); focus rfl) | (apply en_pick; focus ((repeat' first | exact Pick.here | apply Pick.skip | apply Pick.app); done)) | apply en_drop | apply en_app) <;> fail) ⟨a8, t8, rfl, o8.congr (hpp.trans hl), rfl⟩
  · (repeat first | refine G_seq ?_ | refine G_skip ?_ | refine G_endblk ?_ | refine G_block ?_ | refine G_exit rfl ?_)
    refine G_region ?_
    refine GO_q rfl rfl (ev_move rfl) ?_
    refine GO_q rfl rfl (ev_assign rfl) ?_
    refine GO_nil ?_
    (repeat first | refine G_seq ?_ | refine G_skip ?_ | refine G_endblk ?_ | refine G_block ?_ | refine G_exit rfl ?_)
    refine G_ret (L' := ptH (.node p s lo hi) (some ⟨b, 0, none⟩) :: L) rfl (.tmp rfl .nil) (by (repeat first | exact en_refl | (apply en_blk; focus ((repeat' first | exact Pick.here | apply Pick.skip | apply Pick.app); done); focus rfl) | (apply en_own; focus ((repeat' first | exact Pick.here | apply Pick.skip | apply Pick.app); done); focus rfl) | (apply en_pick; focus ((repeat' first | exact Pick.here | apply Pick.skip | apply Pick.app); done)) | apply en_drop | apply en_app) <;> fail) ⟨_, _, rfl, ⟨hok, ⟨b1, b2, ?_⟩, hl⟩, rfl⟩
    unfold PT.heavy at h1
    rw [decide_eq_false_iff_not] at h1
    omega
theorem und_swap {q p : Pt} (h : und q p = true) : q ≠ p := und_ne h
theorem put_ctr : ∀ (t : PT) (a : Option Addr) (p : Pt) (L : List HP), t.Ok → t.Bal → p ∉ t.els → t.size + 1 ≤ 100000 →
    Ctr Tryz.prog 53 #[.pointer a, p.v] (ptH t a :: L) fun v L' => MadeT (p :: t.els) L v L'
  | .nil, a, p, L, _, _, _, _ => by
    refine Ctr_of (fn := Tryz.f53) (n := 39) Tryz.func53 rfl rfl rfl ?_
    intro g F
    refine G_nil ?_
    rintro rfl
    (repeat first | refine G_seq ?_ | refine G_skip ?_ | refine G_endblk ?_ | refine G_block ?_ | refine G_exit rfl ?_)
    refine G_region ?_
    refine GO_eff rfl rfl (eff_box rfl) ?_; rintro _ _ ⟨b3, rfl, rfl⟩
    refine GO_q rfl rfl (ev_assign rfl) ?_
    refine GO_nil ?_
    (repeat first | refine G_seq ?_ | refine G_skip ?_ | refine G_endblk ?_ | refine G_block ?_ | refine G_exit rfl ?_)
    refine G_region ?_
    refine GO_q rfl rfl (ev_move rfl) ?_
    (first | refine GO_q rfl rfl (ev_eqlNil rfl rfl) ?_ | refine GO_q rfl rfl (ev_eqlPtr rfl rfl) ?_)
    refine GO_nil ?_
    (repeat first | refine G_seq ?_ | refine G_skip ?_ | refine G_endblk ?_ | refine G_block ?_ | refine G_exit rfl ?_)
    refine G_cond_t rfl rfl ?_
    (repeat first | refine G_seq ?_ | refine G_skip ?_ | refine G_endblk ?_ | refine G_block ?_ | refine G_exit rfl ?_)
    refine G_region ?_
    refine GO_q rfl rfl (ev_loadN rfl (by repeat' first | exact LdN.blk rfl | assumption | apply LdN.skip | apply LdN.app)) ?_
    refine GO_q rfl rfl (ev_loadN rfl (by repeat' first | exact LdN.blk rfl | assumption | apply LdN.skip | apply LdN.app)) ?_
    refine GO_q rfl rfl (ev_build rfl rfl) ?_
    refine GO_eff rfl rfl (eff_box rfl) ?_; rintro _ _ ⟨b11, rfl, rfl⟩
    refine GO_eff rfl rfl (eff_call rfl (Ctr.pre (M := blk b11 108 (nodeC p p none none 0) :: ptH .nil none :: ptH .nil none :: F :: L) (by (repeat first | exact en_refl | apply en_nilI | (apply en_blk; focus ((repeat' first | exact Pick.here | apply Pick.skip | apply Pick.app); done); focus rfl) | (apply en_own; focus ((repeat' first | exact Pick.here | apply Pick.skip | apply Pick.app); done); focus rfl) | (apply en_pick; focus ((repeat' first | exact Pick.here | apply Pick.skip | apply Pick.app); done)) | apply en_drop | apply en_app) <;> fail) (note_ctr p p .nil .nil b11 0 none none _ (by decide)))) ?_; rintro _ _ ⟨rfl, rfl⟩
    refine GO_q rfl rfl (ev_assign rfl) ?_
    refine GO_nil ?_
    (repeat first | refine G_seq ?_ | refine G_skip ?_ | refine G_endblk ?_ | refine G_block ?_ | refine G_exit rfl ?_)
    refine G_ret (L' := ptH (.node p p .nil .nil) (some ⟨b11, 0, none⟩) :: L) rfl (.tmp rfl .nil) (by (repeat first | exact en_refl | (apply en_blk; focus ((repeat' first | exact Pick.here | apply Pick.skip | apply Pick.app); done); focus rfl) | (apply en_own; focus ((repeat' first | exact Pick.here | apply Pick.skip | apply Pick.app); done); focus rfl) | (apply en_pick; focus ((repeat' first | exact Pick.here | apply Pick.skip | apply Pick.app); done)) | apply en_drop | apply en_app) <;> fail) ⟨_, .node p p .nil .nil, rfl, ?_, rfl⟩
    exact PT.of_node PT.of_nil PT.of_nil (fun _ h => by cases h) (fun _ h => by cases h) (fun _ h => by cases h) (by decide)
  | .node q s lo hi, a, p, L, hok, hbal, hp, hsz => by
    have ih1 := fun a p L => put_ctr lo a p L hok.1 hbal.1
    have ih2 := fun a p L => put_ctr hi a p L hok.2.1 hbal.2.1
    rw [PT.size_node] at hsz
    simp only [PT.els, List.mem_cons, List.mem_append, not_or] at hp
    obtain ⟨p1, p2, p3⟩ := hp
    have hnd := PT.els_nodup hok
    simp only [PT.els, List.nodup_cons, List.mem_append, not_or] at hnd
    obtain ⟨⟨n1, n2⟩, n3⟩ := hnd
    refine Ctr_of (fn := Tryz.f53) (n := 39) Tryz.func53 rfl rfl rfl ?_
    intro g F
    refine G_node ?_
    rintro b al ah rfl
    (repeat first | refine G_seq ?_ | refine G_skip ?_ | refine G_endblk ?_ | refine G_block ?_ | refine G_exit rfl ?_)
    refine G_region ?_
    refine GO_eff rfl rfl (eff_box rfl) ?_; rintro _ _ ⟨b3, rfl, rfl⟩
    refine GO_q rfl rfl (ev_assign rfl) ?_
    refine GO_nil ?_
    (repeat first | refine G_seq ?_ | refine G_skip ?_ | refine G_endblk ?_ | refine G_block ?_ | refine G_exit rfl ?_)
    refine G_region ?_
    refine GO_q rfl rfl (ev_move rfl) ?_
    (first | refine GO_q rfl rfl (ev_eqlNil rfl rfl) ?_ | refine GO_q rfl rfl (ev_eqlPtr rfl rfl) ?_)
    refine GO_nil ?_
    (repeat first | refine G_seq ?_ | refine G_skip ?_ | refine G_endblk ?_ | refine G_block ?_ | refine G_exit rfl ?_)
    refine G_cond_f rfl rfl ?_
    (repeat first | refine G_seq ?_ | refine G_skip ?_ | refine G_endblk ?_ | refine G_block ?_ | refine G_exit rfl ?_)
    refine G_draw (.q 0 (.q 1 (.q 2 (.q 3 (.q 4 (.e 5 .nil)))))) (by kernel_rfl) (by kernel_rfl) ?_
    refine RS_m retB_noPanic rfl rfl rfl rfl (ev_move rfl) ?_
    (first | refine RS_m retB_noPanic rfl rfl rfl rfl (ev_nilCheck rfl) ?_ | refine RS_m retB_noPanic rfl rfl rfl rfl (ev_nilCheckF (by simp) rfl) ?_)
    refine RS_m retB_noPanic rfl rfl rfl rfl (ev_fieldAddr rfl) ?_
    refine RS_q retB_noPanic rfl rfl rfl rfl (ev_loadN rfl (by repeat' first | exact LdN.blk rfl | assumption | apply LdN.skip | apply LdN.app)) ?_
    refine RS_q retB_noPanic rfl rfl rfl rfl (ev_loadN rfl (by repeat' first | exact LdN.blk rfl | assumption | apply LdN.skip | apply LdN.app)) ?_
    refine RS_e (RE_last (by kernel_rfl) rfl rfl rfl (eff_call rfl (under_ctr q p _)) ?_); rintro _ _ ⟨rfl, rfl⟩
    (repeat first | refine G_seq ?_ | refine G_skip ?_ | refine G_endblk ?_)
    refine G_cut (ι := Pt × Pt) (fun x => [(0, .pointer (some ⟨b, 0, none⟩)), (3, .pointer (some ⟨b3, 0, none⟩))]) (fun x => blk b3 29 [.int .i64 x.2.id, .int .i64 x.2.x, .int .i64 x.2.y] :: blk b 108 (nodeC x.1 s al ah (lo.size + 1 + hi.size)) :: ptH lo al :: ptH hi ah :: F :: L)
      (fun x => und x.2 x.1 = true ∧ (∀ r ∈ lo.els ++ hi.els, und r x.1 = true) ∧ x.2 ∉ lo.els ∧ x.2 ∉ hi.els ∧ ((x.1 = q ∧ x.2 = p) ∨ (x.1 = p ∧ x.2 = q))) ?_ ?_
    · (repeat first | refine G_seq ?_ | refine G_skip ?_ | refine G_endblk ?_ | refine G_block ?_ | refine G_exit rfl ?_)
      refine G_condB rfl (fun h1 => ?_) (fun h1 => ?_)
      · (repeat first | refine G_seq ?_ | refine G_skip ?_ | refine G_endblk ?_ | refine G_block ?_ | refine G_exit rfl ?_)
        refine G_draw (.q 0 (.q 1 (.q 2 (.q 3 (.q 4 (.q 5 (.q 6 (.q 7 (.e 8 (.e 9 .nil)))))))))) (by kernel_rfl) (by kernel_rfl) ?_
        refine RS_m retB_noPanic rfl rfl rfl rfl (ev_move rfl) ?_
        refine RS_q retB_noPanic rfl rfl rfl rfl (ev_loadN rfl (by repeat' first | exact LdN.blk rfl | assumption | apply LdN.skip | apply LdN.app)) ?_
        refine RS_m retB_noPanic rfl rfl rfl rfl (ev_move rfl) ?_
        (first | refine RS_m retB_noPanic rfl rfl rfl rfl (ev_nilCheck rfl) ?_ | refine RS_m retB_noPanic rfl rfl rfl rfl (ev_nilCheckF (by simp) rfl) ?_)
        refine RS_m retB_noPanic rfl rfl rfl rfl (ev_fieldAddr rfl) ?_
        refine RS_q retB_noPanic rfl rfl rfl rfl (ev_loadN rfl (by repeat' first | exact LdN.blk rfl | assumption | apply LdN.skip | apply LdN.app)) ?_
        (first | refine RS_m retB_noPanic rfl rfl rfl rfl (ev_nilCheck rfl) ?_ | refine RS_m retB_noPanic rfl rfl rfl rfl (ev_nilCheckF (by simp) rfl) ?_)
        refine RS_m retB_noPanic rfl rfl rfl rfl (ev_fieldAddr rfl) ?_
        refine RS_e (RE_cmp (by kernel_rfl) rfl rfl rfl (eff_storeN rfl rfl rfl rfl (by repeat' first | exact Upd.here rfl | apply Upd.skip | apply Upd.app)) ?_); rintro _ _ ⟨rfl, rfl⟩
        refine RS_e (RE_last (by kernel_rfl) rfl rfl rfl (eff_storeN rfl rfl rfl rfl (by repeat' first | exact Upd.here rfl | apply Upd.skip | apply Upd.app)) ?_); rintro _ _ ⟨rfl, rfl⟩
        (repeat first | refine G_seq ?_ | refine G_skip ?_ | refine G_endblk ?_ | refine G_block ?_ | refine G_exit rfl ?_)
        exact G_inv (p, q) ⟨h1, fun r hr => und_trans (hok.2.2.2.2 r hr) h1, n1, n2, .inr ⟨rfl, rfl⟩⟩ ⟨rfl, rfl, trivial⟩ (by (repeat first | exact en_refl | (apply en_blk; focus ((repeat' first | exact Pick.here | apply Pick.skip | apply Pick.app); done); focus rfl) | (apply en_own; focus ((repeat' first | exact Pick.here | apply Pick.skip | apply Pick.app); done); focus rfl) | (apply en_pick; focus ((repeat' first | exact Pick.here | apply Pick.skip | apply Pick.app); done)) | apply en_drop | apply en_app) <;> fail)
      · (repeat first | refine G_seq ?_ | refine G_skip ?_ | refine G_endblk ?_ | refine G_block ?_ | refine G_exit rfl ?_)
        exact G_inv (q, p) ⟨und_total (Ne.symm p1) h1, hok.2.2.2.2, p2, p3, .inl ⟨rfl, rfl⟩⟩ ⟨rfl, rfl, trivial⟩ (by (repeat first | exact en_refl | (apply en_blk; focus ((repeat' first | exact Pick.here | apply Pick.skip | apply Pick.app); done); focus rfl) | (apply en_own; focus ((repeat' first | exact Pick.here | apply Pick.skip | apply Pick.app); done); focus rfl) | (apply en_pick; focus ((repeat' first | exact Pick.here | apply Pick.skip | apply Pick.app); done)) | apply en_drop | apply en_app) <;> fail)
    · rintro ⟨x1, x2⟩ ⟨u1, u2, u3, u4, u5⟩
      simp only at u1 u2 u3 u4 u5
      dsimp only
      have hpm : ∀ l : List Pt, (x1 :: x2 :: l).Perm (p :: q :: l) := fun l => by
        rcases u5 with ⟨rfl, rfl⟩ | ⟨rfl, rfl⟩
        · exact .swap _ _ _
        · exact .refl _
      (repeat first | refine G_seq ?_ | refine G_skip ?_ | refine G_endblk ?_ | refine G_block ?_ | refine G_exit rfl ?_)
      refine G_region ?_
      refine GO_q rfl rfl (ev_move rfl) ?_
      refine GO_q rfl rfl (ev_loadN rfl (by repeat' first | exact LdN.blk rfl | assumption | apply LdN.skip | apply LdN.app)) ?_
      refine GO_eff rfl rfl (eff_call rfl (kid_ctr x2 s b _ (by repeat' first | exact LdN.blk rfl | assumption | apply LdN.skip | apply LdN.app))) ?_; rintro _ _ ⟨rfl, rfl⟩
      refine GO_q rfl rfl (ev_assign rfl) ?_
      refine GO_nil ?_
      cases hb : beh x2 s with
      | true =>
        (repeat first | refine G_seq ?_ | refine G_skip ?_ | refine G_endblk ?_ | refine G_block ?_ | refine G_exit rfl ?_)
        (repeat first | refine G_seq ?_ | refine G_skip ?_ | refine G_endblk ?_ | refine G_block ?_ | refine G_exit rfl ?_)
        refine G_drawE 3 (.q 0 (.q 1 (.q 2 (.q 3 (.q 4 (.e 5 (.q 6 (.e 7 .nil)))))))) (by kernel_rfl) (by kernel_rfl) ?_
        refine RS_m retB_noPanic rfl rfl rfl rfl (ev_move rfl) ?_
        refine RS_m retB_noPanic rfl rfl rfl rfl (ev_move rfl) ?_
        (first | refine RS_m retB_noPanic rfl rfl rfl rfl (ev_nilCheck rfl) ?_ | refine RS_m retB_noPanic rfl rfl rfl rfl (ev_nilCheckF (by simp) rfl) ?_)
        refine RS_q retB_noPanic rfl rfl rfl rfl (ev_load rfl (by repeat' first | exact Ld.blk rfl | assumption | apply Ld.skip | apply Ld.app)) ?_
        refine RS_q retB_noPanic rfl rfl rfl rfl (ev_loadN rfl (by repeat' first | exact LdN.blk rfl | assumption | apply LdN.skip | apply LdN.app)) ?_
        refine RS_e (RE_cmp (by kernel_rfl) rfl rfl rfl (eff_call rfl (Ctr.pick (by repeat' first | exact Pick.here | apply Pick.skip | apply Pick.app) (ih2 ah x2 _ u4 (by omega)))) ?_); rintro _ _ ⟨a2, t2, rfl, o2, rfl⟩
        (first | refine RS_m retB_noPanic rfl rfl rfl rfl (ev_nilCheck rfl) ?_ | refine RS_m retB_noPanic rfl rfl rfl rfl (ev_nilCheckF (by simp) rfl) ?_)
        refine RS_e (RE_last (by kernel_rfl) rfl rfl rfl (eff_store rfl rfl rfl (by repeat' first | exact Upd.here rfl | apply Upd.skip | apply Upd.app)) ?_); rintro _ _ ⟨rfl, rfl⟩
        have m2 : ∀ r ∈ t2.els, und r x1 = true ∧ beh r s = true := fun r hr => by
          rcases List.mem_cons.1 (o2.perm.subset hr) with rfl | h
          · exact ⟨u1, hb⟩
          · exact ⟨u2 r (List.mem_append.2 (.inr h)), hok.2.2.2.1 r h⟩
        have k1 : (PT.node x1 s lo t2).Ok := ⟨hok.1, o2.ok, hok.2.2.1, fun r hr => (m2 r hr).2, fun r hr => by
          rcases List.mem_append.1 hr with h | h
          · exact u2 r (List.mem_append.2 (.inl h))
          · exact (m2 r h).1⟩
        have k2 : (PT.node x1 s lo t2).els.Perm (p :: (PT.node q s lo hi).els) := by
          refine .trans ?_ (hpm (lo.els ++ hi.els))
          refine .cons x1 ?_
          exact ((List.Perm.refl lo.els).append o2.perm).trans List.perm_middle
        have k3 : lo.size + t2.size + 1 ≤ 100000 := by rw [o2.size, List.length_cons, PT.els_length]; omega
        (repeat first | refine G_seq ?_ | refine G_skip ?_ | refine G_endblk ?_ | refine G_block ?_ | refine G_exit rfl ?_)
        refine G_region ?_
        refine GO_q rfl rfl (ev_move rfl) ?_
        refine GO_eff rfl rfl (eff_call rfl (Ctr.pre (M := blk b 108 (nodeC x1 s al a2 (lo.size + 1 + hi.size)) :: ptH lo al :: ptH t2 a2 :: F :: L) (by (repeat first | exact en_refl | (apply en_blk; focus ((repeat' first | exact Pick.here | apply Pick.skip | apply Pick.app); done); focus rfl) | (apply en_own; focus ((repeat' first | exact Pick.here | apply Pick.skip | apply Pick.app); done); focus rfl) | (apply en_pick; focus ((repeat' first | exact Pick.here | apply Pick.skip | apply Pick.app); done)) | apply en_drop | apply en_app) <;> fail) (even_ctr x1 s lo t2 b _ al a2 (p :: (PT.node q s lo hi).els) _ k1 hbal.1 o2.bal k3 k2))) ?_; rintro _ _ ⟨a9, t9, rfl, o9, rfl⟩
        refine GO_q rfl rfl (ev_assign rfl) ?_
        refine GO_nil ?_
        (repeat first | refine G_seq ?_ | refine G_skip ?_ | refine G_endblk ?_ | refine G_block ?_ | refine G_exit rfl ?_)
        exact G_ret (L' := ptH t9 a9 :: L) rfl (.tmp rfl .nil) (by (repeat first | exact en_refl | (apply en_blk; focus ((repeat' first | exact Pick.here | apply Pick.skip | apply Pick.app); done); focus rfl) | (apply en_own; focus ((repeat' first | exact Pick.here | apply Pick.skip | apply Pick.app); done); focus rfl) | (apply en_pick; focus ((repeat' first | exact Pick.here | apply Pick.skip | apply Pick.app); done)) | apply en_drop | apply en_app) <;> fail) ⟨a9, t9, rfl, o9, rfl⟩
      | false =>
        (repeat first | refine G_seq ?_ | refine G_skip ?_ | refine G_endblk ?_ | refine G_block ?_ | refine G_exit rfl ?_)
        (repeat first | refine G_seq ?_ | refine G_skip ?_ | refine G_endblk ?_ | refine G_block ?_ | refine G_exit rfl ?_)
        refine G_drawE 2 (.q 0 (.q 1 (.q 2 (.q 3 (.q 4 (.e 5 (.q 6 (.e 7 .nil)))))))) (by kernel_rfl) (by kernel_rfl) ?_
        refine RS_m retB_noPanic rfl rfl rfl rfl (ev_move rfl) ?_
        refine RS_m retB_noPanic rfl rfl rfl rfl (ev_move rfl) ?_
        (first | refine RS_m retB_noPanic rfl rfl rfl rfl (ev_nilCheck rfl) ?_ | refine RS_m retB_noPanic rfl rfl rfl rfl (ev_nilCheckF (by simp) rfl) ?_)
        refine RS_q retB_noPanic rfl rfl rfl rfl (ev_load rfl (by repeat' first | exact Ld.blk rfl | assumption | apply Ld.skip | apply Ld.app)) ?_
        refine RS_q retB_noPanic rfl rfl rfl rfl (ev_loadN rfl (by repeat' first | exact LdN.blk rfl | assumption | apply LdN.skip | apply LdN.app)) ?_
        refine RS_e (RE_cmp (by kernel_rfl) rfl rfl rfl (eff_call rfl (Ctr.pick (by repeat' first | exact Pick.here | apply Pick.skip | apply Pick.app) (ih1 al x2 _ u3 (by omega)))) ?_); rintro _ _ ⟨a2, t2, rfl, o2, rfl⟩
        (first | refine RS_m retB_noPanic rfl rfl rfl rfl (ev_nilCheck rfl) ?_ | refine RS_m retB_noPanic rfl rfl rfl rfl (ev_nilCheckF (by simp) rfl) ?_)
        refine RS_e (RE_last (by kernel_rfl) rfl rfl rfl (eff_store rfl rfl rfl (by repeat' first | exact Upd.here rfl | apply Upd.skip | apply Upd.app)) ?_); rintro _ _ ⟨rfl, rfl⟩
        have m2 : ∀ r ∈ t2.els, und r x1 = true ∧ beh r s = false := fun r hr => by
          rcases List.mem_cons.1 (o2.perm.subset hr) with rfl | h
          · exact ⟨u1, hb⟩
          · exact ⟨u2 r (List.mem_append.2 (.inl h)), hok.2.2.1 r h⟩
        have k1 : (PT.node x1 s t2 hi).Ok := ⟨o2.ok, hok.2.1, fun r hr => (m2 r hr).2, hok.2.2.2.1, fun r hr => by
          rcases List.mem_append.1 hr with h | h
          · exact (m2 r h).1
          · exact u2 r (List.mem_append.2 (.inr h))⟩
        have k2 : (PT.node x1 s t2 hi).els.Perm (p :: (PT.node q s lo hi).els) := by
          refine .trans ?_ (hpm (lo.els ++ hi.els))
          refine .cons x1 ?_
          exact o2.perm.append (List.Perm.refl hi.els)
        have k3 : t2.size + hi.size + 1 ≤ 100000 := by rw [o2.size, List.length_cons, PT.els_length]; omega
        (repeat first | refine G_seq ?_ | refine G_skip ?_ | refine G_endblk ?_ | refine G_block ?_ | refine G_exit rfl ?_)
        refine G_region ?_
        refine GO_q rfl rfl (ev_move rfl) ?_
        refine GO_eff rfl rfl (eff_call rfl (Ctr.pre (M := blk b 108 (nodeC x1 s a2 ah (lo.size + 1 + hi.size)) :: ptH t2 a2 :: ptH hi ah :: F :: L) (by (repeat first | exact en_refl | (apply en_blk; focus ((repeat' first | exact Pick.here | apply Pick.skip | apply Pick.app); done); focus rfl) | (apply en_own; focus ((repeat' first | exact Pick.here | apply Pick.skip | apply Pick.app); done); focus rfl) | (apply en_pick; focus ((repeat' first | exact Pick.here | apply Pick.skip | apply Pick.app); done)) | apply en_drop | apply en_app) <;> fail) (even_ctr x1 s t2 hi b _ a2 ah (p :: (PT.node q s lo hi).els) _ k1 o2.bal hbal.2.1 k3 k2))) ?_; rintro _ _ ⟨a9, t9, rfl, o9, rfl⟩
        refine GO_q rfl rfl (ev_assign rfl) ?_
        refine GO_nil ?_
        (repeat first | refine G_seq ?_ | refine G_skip ?_ | refine G_endblk ?_ | refine G_block ?_ | refine G_exit rfl ?_)
        exact G_ret (L' := ptH t9 a9 :: L) rfl (.tmp rfl .nil) (by (repeat first | exact en_refl | (apply en_blk; focus ((repeat' first | exact Pick.here | apply Pick.skip | apply Pick.app); done); focus rfl) | (apply en_own; focus ((repeat' first | exact Pick.here | apply Pick.skip | apply Pick.app); done); focus rfl) | (apply en_pick; focus ((repeat' first | exact Pick.here | apply Pick.skip | apply Pick.app); done)) | apply en_drop | apply en_app) <;> fail) ⟨a9, t9, rfl, o9, rfl⟩
end Go.Proofs.YtalcanejhniepaaGreat
/- Trees that are heaps by Y: lift, cut. -/
namespace Go.Proofs.YtalcanejhniepaaGreat
attribute [local irreducible] sat
set_option linter.unusedVariables false
set_option linter.unusedSimpArgs false
set_option maxRecDepth 100000

theorem lift_ctr : ∀ (f : Nat) (p s : Pt) (lo hi : PT) (a : Option Addr) (L : List HP), lo.size + hi.size ≤ f → (PT.node p s lo hi).Ok → (PT.node p s lo hi).Bal → lo.size + hi.size + 1 ≤ 100000 →
    Ctr Tryz.prog 102 #[.pointer a] (ptH (.node p s lo hi) a :: L) fun v L' => MadeT (lo.els ++ hi.els) L v L' := by
  intro f
  induction f with
  | zero => 
    intro p s lo hi a L hf hok hbal hsz
    match lo, hi, hf with
    | .nil, .nil, _ =>
      refine Ctr_of (fn := Tryz.f102) (n := 70) Tryz.func102 rfl rfl rfl ?_
      intro g F
      refine G_node ?_
      rintro b al ah rfl
      refine G_nil ?_
      rintro rfl
      refine G_nil ?_
      rintro rfl
      (repeat first | refine G_seq ?_ | refine G_skip ?_ | refine G_endblk ?_ | refine G_block ?_ | refine G_exit rfl ?_)
      refine G_region ?_
      refine GO_q rfl rfl (ev_assign rfl) ?_
      refine GO_nil ?_
      (repeat first | refine G_seq ?_ | refine G_skip ?_ | refine G_endblk ?_ | refine G_block ?_ | refine G_exit rfl ?_)
      refine G_region ?_
      refine GO_q rfl rfl (ev_assign rfl) ?_
      refine GO_nil ?_
      (repeat first | refine G_seq ?_ | refine G_skip ?_ | refine G_endblk ?_ | refine G_block ?_ | refine G_exit rfl ?_)
      refine G_region ?_
      refine GO_q rfl rfl (ev_move rfl) ?_
      (first | refine GO_q rfl rfl (ev_nilCheck rfl) ?_ | refine GO_q rfl rfl (ev_nilCheckF (by simp) rfl) ?_)
      refine GO_q rfl rfl (ev_fieldAddr rfl) ?_
      refine GO_q rfl rfl (ev_load rfl (by repeat' first | exact Ld.blk rfl | assumption | apply Ld.skip | apply Ld.app)) ?_
      (first | refine GO_q rfl rfl (ev_eqlNil rfl rfl) ?_ | refine GO_q rfl rfl (ev_eqlPtr rfl rfl) ?_)
      refine GO_q rfl rfl (ev_move rfl) ?_
      refine GO_yes rfl rfl rfl rfl ?_
      refine GO_q rfl rfl (ev_move rfl) ?_
      refine GO_yes rfl rfl rfl rfl ?_
      (first | refine GO_q rfl rfl (ev_nilCheck rfl) ?_ | refine GO_q rfl rfl (ev_nilCheckF (by simp) rfl) ?_)
      refine GO_yes rfl rfl rfl rfl ?_
      refine GO_q rfl rfl (ev_fieldAddr rfl) ?_
      refine GO_yes rfl rfl rfl rfl ?_
      refine GO_q rfl rfl (ev_load rfl (by repeat' first | exact Ld.blk rfl | assumption | apply Ld.skip | apply Ld.app)) ?_
      refine GO_yes rfl rfl rfl rfl ?_
      (first | refine GO_q rfl rfl (ev_eqlNil rfl rfl) ?_ | refine GO_q rfl rfl (ev_eqlPtr rfl rfl) ?_)
      refine GO_q rfl rfl (ev_pick_t rfl rfl rfl) ?_
      refine GO_q rfl rfl (ev_assign rfl) ?_
      refine GO_nil ?_
      (repeat first | refine G_seq ?_ | refine G_skip ?_ | refine G_endblk ?_ | refine G_block ?_ | refine G_exit rfl ?_)
      refine G_cond_t rfl rfl ?_
      (repeat first | refine G_seq ?_ | refine G_skip ?_ | refine G_endblk ?_ | refine G_block ?_ | refine G_exit rfl ?_)
      refine G_region ?_
      refine GO_q rfl rfl (ev_assign rfl) ?_
      refine GO_nil ?_
      (repeat first | refine G_seq ?_ | refine G_skip ?_ | refine G_endblk ?_ | refine G_block ?_ | refine G_exit rfl ?_)
      exact G_ret (L' := ptH .nil none :: L) rfl (.tmp rfl .nil) (by (repeat first | exact en_refl | apply en_nilI | (apply en_blk; focus ((repeat' first | exact Pick.here | apply Pick.skip | apply Pick.app); done); focus rfl) | (apply en_own; focus ((repeat' first | exact Pick.here | apply Pick.skip | apply Pick.app); done); focus rfl) | (apply en_pick; focus ((repeat' first | exact Pick.here | apply Pick.skip | apply Pick.app); done)) | apply en_drop | apply en_app) <;> fail) ⟨none, .nil, rfl, PT.of_nil, rfl⟩
    | .node _ _ _ _, _, h => simp only [PT.size] at h; omega
    | .nil, .node _ _ _ _, h => simp only [PT.size] at h; omega
  | succ f ih =>
    intro p s lo hi a L hf hok hbal hsz
    by_cases hnil : lo = .nil ∧ hi = .nil
    · obtain ⟨rfl, rfl⟩ := hnil
      exact ih p s .nil .nil a L (by simp [PT.size]) hok hbal hsz
    refine Ctr_of (fn := Tryz.f102) (n := 70) Tryz.func102 rfl rfl rfl ?_
    intro g F
    refine G_node ?_
    rintro b al ah rfl
    (repeat first | refine G_seq ?_ | refine G_skip ?_ | refine G_endblk ?_ | refine G_block ?_ | refine G_exit rfl ?_)
    refine G_region ?_
    refine GO_q rfl rfl (ev_assign rfl) ?_
    refine GO_nil ?_
    (repeat first | refine G_seq ?_ | refine G_skip ?_ | refine G_endblk ?_ | refine G_block ?_ | refine G_exit rfl ?_)
    refine G_region ?_
    refine GO_q rfl rfl (ev_assign rfl) ?_
    refine GO_nil ?_
    (repeat first | refine G_seq ?_ | refine G_skip ?_ | refine G_endblk ?_)
    refine G_cut (ι := Bool) (fun x => [(0, .pointer (some ⟨b, 0, none⟩)), (3, .pointer (some ⟨b, (if x then 7 else 6), none⟩))]) (fun x => blk b 108 (nodeC p s al ah (lo.size + 1 + hi.size)) :: ptH lo al :: ptH hi ah :: F :: L)
      (fun x => if x then ∃ c cs cl ch, hi = .node c cs cl ch ∧ ∀ r ∈ lo.els, und r c = true else ∃ c cs cl ch, lo = .node c cs cl ch ∧ ∀ r ∈ hi.els, und r c = true) ?_ ?_
    · match lo, hi, hnil with
      | .nil, .nil, h => exact absurd ⟨rfl, rfl⟩ h
      | .nil, .node c cs cl ch, _ =>
        refine G_nil ?_
        rintro rfl
        refine G_node ?_
        rintro bh hl hh rfl
        (repeat first | refine G_seq ?_ | refine G_skip ?_ | refine G_endblk ?_ | refine G_block ?_ | refine G_exit rfl ?_)
        refine G_region ?_
        refine GO_q rfl rfl (ev_move rfl) ?_
        (first | refine GO_q rfl rfl (ev_nilCheck rfl) ?_ | refine GO_q rfl rfl (ev_nilCheckF (by simp) rfl) ?_)
        refine GO_q rfl rfl (ev_fieldAddr rfl) ?_
        refine GO_q rfl rfl (ev_load rfl (by repeat' first | exact Ld.blk rfl | assumption | apply Ld.skip | apply Ld.app)) ?_
        (first | refine GO_q rfl rfl (ev_eqlNil rfl rfl) ?_ | refine GO_q rfl rfl (ev_eqlPtr rfl rfl) ?_)
        refine GO_q rfl rfl (ev_move rfl) ?_
        refine GO_yes rfl rfl rfl rfl ?_
        refine GO_q rfl rfl (ev_move rfl) ?_
        refine GO_yes rfl rfl rfl rfl ?_
        (first | refine GO_q rfl rfl (ev_nilCheck rfl) ?_ | refine GO_q rfl rfl (ev_nilCheckF (by simp) rfl) ?_)
        refine GO_yes rfl rfl rfl rfl ?_
        refine GO_q rfl rfl (ev_fieldAddr rfl) ?_
        refine GO_yes rfl rfl rfl rfl ?_
        refine GO_q rfl rfl (ev_load rfl (by repeat' first | exact Ld.blk rfl | assumption | apply Ld.skip | apply Ld.app)) ?_
        refine GO_yes rfl rfl rfl rfl ?_
        (first | refine GO_q rfl rfl (ev_eqlNil rfl rfl) ?_ | refine GO_q rfl rfl (ev_eqlPtr rfl rfl) ?_)
        refine GO_q rfl rfl (ev_pick_t rfl rfl rfl) ?_
        refine GO_q rfl rfl (ev_assign rfl) ?_
        refine GO_nil ?_
        (repeat first | refine G_seq ?_ | refine G_skip ?_ | refine G_endblk ?_ | refine G_block ?_ | refine G_exit rfl ?_)
        refine G_cond_f rfl rfl ?_
        (repeat first | refine G_seq ?_ | refine G_skip ?_ | refine G_endblk ?_ | refine G_block ?_ | refine G_exit rfl ?_)
        refine G_draw (.q 0 (.q 1 (.q 2 (.q 3 (.q 4 (.q 5 (.q 6 (.q 7 (.q 8 (.q 9 (.q 10 (.q 11 (.q 12 (.q 13 (.q 14 (.q 15 (.q 16 (.q 17 (.q 18 (.q 19 (.q 20 (.q 21 (.q 22 (.q 23 (.q 24 (.q 25 (.e 26 (.q 27 (.q 28 (.q 29 .nil)))))))))))))))))))))))))))))) (by kernel_rfl) (by kernel_rfl) ?_
        refine RS_m retB_noPanic rfl rfl rfl rfl (ev_move rfl) ?_
        (first | refine RS_m retB_noPanic rfl rfl rfl rfl (ev_nilCheck rfl) ?_ | refine RS_m retB_noPanic rfl rfl rfl rfl (ev_nilCheckF (by simp) rfl) ?_)
        refine RS_m retB_noPanic rfl rfl rfl rfl (ev_fieldAddr rfl) ?_
        refine RS_q retB_noPanic rfl rfl rfl rfl (ev_load rfl (by repeat' first | exact Ld.blk rfl | assumption | apply Ld.skip | apply Ld.app)) ?_
        (first | refine RS_m retB_noPanic rfl rfl rfl rfl (ev_eqlNil rfl rfl) ?_ | refine RS_m retB_noPanic rfl rfl rfl rfl (ev_eqlPtr rfl rfl) ?_)
        refine RS_m retB_noPanic rfl rfl rfl rfl (ev_move rfl) ?_
        refine RS_q_no retB_noPanic rfl rfl rfl ⟨_, rfl, rfl⟩ rfl ?_
        refine RS_q_no retB_noPanic rfl rfl rfl ⟨_, rfl, rfl⟩ rfl ?_
        refine RS_q_no retB_noPanic rfl rfl rfl ⟨_, rfl, rfl⟩ rfl ?_
        refine RS_q_no retB_noPanic rfl rfl rfl ⟨_, rfl, rfl⟩ rfl ?_
        refine RS_q_no retB_noPanic rfl rfl rfl ⟨_, rfl, rfl⟩ rfl ?_
        refine RS_q_no retB_noPanic rfl rfl rfl ⟨_, rfl, rfl⟩ rfl ?_
        refine RS_q_undef retB_noPanic rfl rfl rfl rfl rfl ?_
        refine RS_q_undef retB_noPanic rfl rfl rfl rfl rfl ?_
        refine RS_q_undef retB_noPanic rfl rfl rfl rfl rfl ?_
        refine RS_q_undef retB_noPanic rfl rfl rfl rfl rfl ?_
        refine RS_q_undef retB_noPanic rfl rfl rfl rfl rfl ?_
        refine RS_q_undef retB_noPanic rfl rfl rfl rfl rfl ?_
        refine RS_q_undef retB_noPanic rfl rfl rfl rfl rfl ?_
        refine RS_q_undef retB_noPanic rfl rfl rfl rfl rfl ?_
        refine RS_q_undef retB_noPanic rfl rfl rfl rfl rfl ?_
        refine RS_q_undef retB_noPanic rfl rfl rfl rfl rfl ?_
        refine RS_q_undef retB_noPanic rfl rfl rfl rfl rfl ?_
        refine RS_q_undef retB_noPanic rfl rfl rfl rfl rfl ?_
        refine RS_q_undef retB_noPanic rfl rfl rfl rfl rfl ?_
        refine RS_q_undef retB_noPanic rfl rfl rfl rfl rfl ?_
        refine RS_e (RE_undef rfl rfl rfl rfl rfl ?_)
        refine RS_q_no retB_noPanic rfl rfl rfl ⟨_, rfl, rfl⟩ rfl ?_
        refine RS_m retB_noPanic rfl rfl rfl rfl (ev_pick_t rfl rfl rfl) ?_
        refine RS_m retB_noPanic rfl rfl rfl rfl (ev_assign rfl) ?_
        refine RS_nil ?_
        (repeat first | refine G_seq ?_ | refine G_skip ?_ | refine G_endblk ?_ | refine G_block ?_ | refine G_exit rfl ?_)
        refine G_cond_t rfl rfl ?_
        (repeat first | refine G_seq ?_ | refine G_skip ?_ | refine G_endblk ?_ | refine G_block ?_ | refine G_exit rfl ?_)
        refine G_region ?_
        refine GO_q rfl rfl (ev_move rfl) ?_
        (first | refine GO_q rfl rfl (ev_nilCheck rfl) ?_ | refine GO_q rfl rfl (ev_nilCheckF (by simp) rfl) ?_)
        refine GO_q rfl rfl (ev_fieldAddr rfl) ?_
        refine GO_q rfl rfl (ev_assign rfl) ?_
        refine GO_nil ?_
        (repeat first | refine G_seq ?_ | refine G_skip ?_ | refine G_endblk ?_ | refine G_block ?_ | refine G_exit rfl ?_)
        exact G_inv true ⟨c, cs, cl, ch, rfl, fun r hr => by cases hr⟩ ⟨rfl, rfl, trivial⟩ (by (repeat first | exact en_refl | apply en_nilI | apply en_nodeI | (apply en_blk; focus ((repeat' first | exact Pick.here | apply Pick.skip | apply Pick.app); done); focus rfl) | (apply en_own; focus ((repeat' first | exact Pick.here | apply Pick.skip | apply Pick.app); done); focus rfl) | (apply en_pick; focus ((repeat' first | exact Pick.here | apply Pick.skip | apply Pick.app); done)) | apply en_drop | apply en_app) <;> fail)
      | .node c cs cl ch, .nil, _ =>
        refine G_node ?_
        rintro bl ll lh rfl
        refine G_heap (L' := blk b 108 (nodeC p s (some ⟨bl, 0, none⟩) ah ((PT.node c cs cl ch).size + 1 + PT.nil.size)) :: ptH .nil ah :: blk bl 108 (nodeC c cs ll lh (cl.size + 1 + ch.size)) :: ptH cl ll :: ptH ch lh :: F :: L) (by (repeat first | exact en_refl | (apply en_blk; focus ((repeat' first | exact Pick.here | apply Pick.skip | apply Pick.app); done); focus rfl) | (apply en_own; focus ((repeat' first | exact Pick.here | apply Pick.skip | apply Pick.app); done); focus rfl) | (apply en_pick; focus ((repeat' first | exact Pick.here | apply Pick.skip | apply Pick.app); done)) | apply en_drop | apply en_app) <;> fail) ?_
        refine G_nil ?_
        rintro rfl
        (repeat first | refine G_seq ?_ | refine G_skip ?_ | refine G_endblk ?_ | refine G_block ?_ | refine G_exit rfl ?_)
        refine G_region ?_
        refine GO_q rfl rfl (ev_move rfl) ?_
        (first | refine GO_q rfl rfl (ev_nilCheck rfl) ?_ | refine GO_q rfl rfl (ev_nilCheckF (by simp) rfl) ?_)
        refine GO_q rfl rfl (ev_fieldAddr rfl) ?_
        refine GO_q rfl rfl (ev_load rfl (by repeat' first | exact Ld.blk rfl | assumption | apply Ld.skip | apply Ld.app)) ?_
        (first | refine GO_q rfl rfl (ev_eqlNil rfl rfl) ?_ | refine GO_q rfl rfl (ev_eqlPtr rfl rfl) ?_)
        refine GO_q rfl rfl (ev_move rfl) ?_
        refine GO_no rfl rfl rfl rfl ?_
        refine GO_no rfl rfl rfl rfl ?_
        refine GO_no rfl rfl rfl rfl ?_
        refine GO_no rfl rfl rfl rfl ?_
        refine GO_no rfl rfl rfl rfl ?_
        refine GO_q rfl rfl (ev_pick_f rfl rfl rfl) ?_
        refine GO_q rfl rfl (ev_assign rfl) ?_
        refine GO_nil ?_
        (repeat first | refine G_seq ?_ | refine G_skip ?_ | refine G_endblk ?_ | refine G_block ?_ | refine G_exit rfl ?_)
        refine G_cond_f rfl rfl ?_
        (repeat first | refine G_seq ?_ | refine G_skip ?_ | refine G_endblk ?_ | refine G_block ?_ | refine G_exit rfl ?_)
        refine G_draw (.q 0 (.q 1 (.q 2 (.q 3 (.q 4 (.q 5 (.q 6 (.q 7 (.q 8 (.q 9 (.q 10 (.q 11 (.q 12 (.q 13 (.q 14 (.q 15 (.q 16 (.q 17 (.q 18 (.q 19 (.q 20 (.q 21 (.q 22 (.q 23 (.q 24 (.q 25 (.e 26 (.q 27 (.q 28 (.q 29 .nil)))))))))))))))))))))))))))))) (by kernel_rfl) (by kernel_rfl) ?_
        refine RS_m retB_noPanic rfl rfl rfl rfl (ev_move rfl) ?_
        (first | refine RS_m retB_noPanic rfl rfl rfl rfl (ev_nilCheck rfl) ?_ | refine RS_m retB_noPanic rfl rfl rfl rfl (ev_nilCheckF (by simp) rfl) ?_)
        refine RS_m retB_noPanic rfl rfl rfl rfl (ev_fieldAddr rfl) ?_
        refine RS_q retB_noPanic rfl rfl rfl rfl (ev_load rfl (by repeat' first | exact Ld.blk rfl | assumption | apply Ld.skip | apply Ld.app)) ?_
        (first | refine RS_m retB_noPanic rfl rfl rfl rfl (ev_eqlNil rfl rfl) ?_ | refine RS_m retB_noPanic rfl rfl rfl rfl (ev_eqlPtr rfl rfl) ?_)
        refine RS_m retB_noPanic rfl rfl rfl rfl (ev_move rfl) ?_
        refine RS_m_yes retB_noPanic rfl rfl rfl rfl ⟨_, rfl, rfl⟩ rfl (ev_move rfl) ?_
        (first | refine RS_m_yes retB_noPanic rfl rfl rfl rfl ⟨_, rfl, rfl⟩ rfl (ev_nilCheck rfl) ?_ | refine RS_m_yes retB_noPanic rfl rfl rfl rfl ⟨_, rfl, rfl⟩ rfl (ev_nilCheckF (by simp) rfl) ?_)
        refine RS_m_yes retB_noPanic rfl rfl rfl rfl ⟨_, rfl, rfl⟩ rfl (ev_fieldAddr rfl) ?_
        refine RS_q_yes retB_noPanic rfl rfl rfl rfl ⟨_, rfl, rfl⟩ rfl (ev_load rfl (by repeat' first | exact Ld.blk rfl | assumption | apply Ld.skip | apply Ld.app)) ?_
        (first | refine RS_m_yes retB_noPanic rfl rfl rfl rfl ⟨_, rfl, rfl⟩ rfl (ev_neqNil rfl rfl) ?_ | refine RS_m_yes retB_noPanic rfl rfl rfl rfl ⟨_, rfl, rfl⟩ rfl (ev_neqPtr rfl rfl) ?_)
        refine RS_m_yes retB_noPanic rfl rfl rfl rfl ⟨_, rfl, rfl⟩ rfl (ev_move rfl) ?_
        refine RS_q_no retB_noPanic rfl rfl rfl ⟨_, rfl, rfl⟩ rfl ?_
        refine RS_q_no retB_noPanic rfl rfl rfl ⟨_, rfl, rfl⟩ rfl ?_
        refine RS_q_no retB_noPanic rfl rfl rfl ⟨_, rfl, rfl⟩ rfl ?_
        refine RS_q_no retB_noPanic rfl rfl rfl ⟨_, rfl, rfl⟩ rfl ?_
        refine RS_q_no retB_noPanic rfl rfl rfl ⟨_, rfl, rfl⟩ rfl ?_
        refine RS_q_no retB_noPanic rfl rfl rfl ⟨_, rfl, rfl⟩ rfl ?_
        refine RS_q_no retB_noPanic rfl rfl rfl ⟨_, rfl, rfl⟩ rfl ?_
        refine RS_q_no retB_noPanic rfl rfl rfl ⟨_, rfl, rfl⟩ rfl ?_
        refine RS_q_no retB_noPanic rfl rfl rfl ⟨_, rfl, rfl⟩ rfl ?_
        refine RS_q_no retB_noPanic rfl rfl rfl ⟨_, rfl, rfl⟩ rfl ?_
        refine RS_q_no retB_noPanic rfl rfl rfl ⟨_, rfl, rfl⟩ rfl ?_
        refine RS_q_no retB_noPanic rfl rfl rfl ⟨_, rfl, rfl⟩ rfl ?_
        refine RS_q_no retB_noPanic rfl rfl rfl ⟨_, rfl, rfl⟩ rfl ?_
        refine RS_q_no retB_noPanic rfl rfl rfl ⟨_, rfl, rfl⟩ rfl ?_
        refine RS_e (RE_no rfl rfl rfl ⟨_, rfl, rfl⟩ rfl ?_)
        refine RS_m_yes retB_noPanic rfl rfl rfl rfl ⟨_, rfl, rfl⟩ rfl (ev_pick_f rfl rfl rfl) ?_
        refine RS_m retB_noPanic rfl rfl rfl rfl (ev_pick_f rfl rfl rfl) ?_
        refine RS_m retB_noPanic rfl rfl rfl rfl (ev_assign rfl) ?_
        refine RS_nil ?_
        (repeat first | refine G_seq ?_ | refine G_skip ?_ | refine G_endblk ?_ | refine G_block ?_ | refine G_exit rfl ?_)
        refine G_cond_f rfl rfl ?_
        (repeat first | refine G_seq ?_ | refine G_skip ?_ | refine G_endblk ?_ | refine G_block ?_ | refine G_exit rfl ?_)
        refine G_region ?_
        refine GO_q rfl rfl (ev_move rfl) ?_
        (first | refine GO_q rfl rfl (ev_nilCheck rfl) ?_ | refine GO_q rfl rfl (ev_nilCheckF (by simp) rfl) ?_)
        refine GO_q rfl rfl (ev_fieldAddr rfl) ?_
        refine GO_q rfl rfl (ev_assign rfl) ?_
        refine GO_nil ?_
        (repeat first | refine G_seq ?_ | refine G_skip ?_ | refine G_endblk ?_ | refine G_block ?_ | refine G_exit rfl ?_)
        exact G_inv false ⟨c, cs, cl, ch, rfl, fun r hr => by cases hr⟩ ⟨rfl, rfl, trivial⟩ (by (repeat first | exact en_refl | apply en_nilI | apply en_nodeI | (apply en_blk; focus ((repeat' first | exact Pick.here | apply Pick.skip | apply Pick.app); done); focus rfl) | (apply en_own; focus ((repeat' first | exact Pick.here | apply Pick.skip | apply Pick.app); done); focus rfl) | (apply en_pick; focus ((repeat' first | exact Pick.here | apply Pick.skip | apply Pick.app); done)) | apply en_drop | apply en_app) <;> fail)
      | .node c cs cl ch, .node d ds dl dh, _ =>
        refine G_node ?_
        rintro bl ll lh rfl
        refine G_heap (L' := blk b 108 (nodeC p s (some ⟨bl, 0, none⟩) ah ((PT.node c cs cl ch).size + 1 + (PT.node d ds dl dh).size)) :: ptH (.node d ds dl dh) ah :: blk bl 108 (nodeC c cs ll lh (cl.size + 1 + ch.size)) :: ptH cl ll :: ptH ch lh :: F :: L) (by (repeat first | exact en_refl | (apply en_blk; focus ((repeat' first | exact Pick.here | apply Pick.skip | apply Pick.app); done); focus rfl) | (apply en_own; focus ((repeat' first | exact Pick.here | apply Pick.skip | apply Pick.app); done); focus rfl) | (apply en_pick; focus ((repeat' first | exact Pick.here | apply Pick.skip | apply Pick.app); done)) | apply en_drop | apply en_app) <;> fail) ?_
        refine G_node ?_
        rintro bh hl hh rfl
        (repeat first | refine G_seq ?_ | refine G_skip ?_ | refine G_endblk ?_ | refine G_block ?_ | refine G_exit rfl ?_)
        refine G_region ?_
        refine GO_q rfl rfl (ev_move rfl) ?_
        (first | refine GO_q rfl rfl (ev_nilCheck rfl) ?_ | refine GO_q rfl rfl (ev_nilCheckF (by simp) rfl) ?_)
        refine GO_q rfl rfl (ev_fieldAddr rfl) ?_
        refine GO_q rfl rfl (ev_load rfl (by repeat' first | exact Ld.blk rfl | assumption | apply Ld.skip | apply Ld.app)) ?_
        (first | refine GO_q rfl rfl (ev_eqlNil rfl rfl) ?_ | refine GO_q rfl rfl (ev_eqlPtr rfl rfl) ?_)
        refine GO_q rfl rfl (ev_move rfl) ?_
        refine GO_no rfl rfl rfl rfl ?_
        refine GO_no rfl rfl rfl rfl ?_
        refine GO_no rfl rfl rfl rfl ?_
        refine GO_no rfl rfl rfl rfl ?_
        refine GO_no rfl rfl rfl rfl ?_
        refine GO_q rfl rfl (ev_pick_f rfl rfl rfl) ?_
        refine GO_q rfl rfl (ev_assign rfl) ?_
        refine GO_nil ?_
        (repeat first | refine G_seq ?_ | refine G_skip ?_ | refine G_endblk ?_ | refine G_block ?_ | refine G_exit rfl ?_)
        refine G_cond_f rfl rfl ?_
        (repeat first | refine G_seq ?_ | refine G_skip ?_ | refine G_endblk ?_ | refine G_block ?_ | refine G_exit rfl ?_)
        refine G_draw (.q 0 (.q 1 (.q 2 (.q 3 (.q 4 (.q 5 (.q 6 (.q 7 (.q 8 (.q 9 (.q 10 (.q 11 (.q 12 (.q 13 (.q 14 (.q 15 (.q 16 (.q 17 (.q 18 (.q 19 (.q 20 (.q 21 (.q 22 (.q 23 (.q 24 (.q 25 (.e 26 (.q 27 (.q 28 (.q 29 .nil)))))))))))))))))))))))))))))) (by kernel_rfl) (by kernel_rfl) ?_
        refine RS_m retB_noPanic rfl rfl rfl rfl (ev_move rfl) ?_
        (first | refine RS_m retB_noPanic rfl rfl rfl rfl (ev_nilCheck rfl) ?_ | refine RS_m retB_noPanic rfl rfl rfl rfl (ev_nilCheckF (by simp) rfl) ?_)
        refine RS_m retB_noPanic rfl rfl rfl rfl (ev_fieldAddr rfl) ?_
        refine RS_q retB_noPanic rfl rfl rfl rfl (ev_load rfl (by repeat' first | exact Ld.blk rfl | assumption | apply Ld.skip | apply Ld.app)) ?_
        (first | refine RS_m retB_noPanic rfl rfl rfl rfl (ev_eqlNil rfl rfl) ?_ | refine RS_m retB_noPanic rfl rfl rfl rfl (ev_eqlPtr rfl rfl) ?_)
        refine RS_m retB_noPanic rfl rfl rfl rfl (ev_move rfl) ?_
        refine RS_m_yes retB_noPanic rfl rfl rfl rfl ⟨_, rfl, rfl⟩ rfl (ev_move rfl) ?_
        (first | refine RS_m_yes retB_noPanic rfl rfl rfl rfl ⟨_, rfl, rfl⟩ rfl (ev_nilCheck rfl) ?_ | refine RS_m_yes retB_noPanic rfl rfl rfl rfl ⟨_, rfl, rfl⟩ rfl (ev_nilCheckF (by simp) rfl) ?_)
        refine RS_m_yes retB_noPanic rfl rfl rfl rfl ⟨_, rfl, rfl⟩ rfl (ev_fieldAddr rfl) ?_
        refine RS_q_yes retB_noPanic rfl rfl rfl rfl ⟨_, rfl, rfl⟩ rfl (ev_load rfl (by repeat' first | exact Ld.blk rfl | assumption | apply Ld.skip | apply Ld.app)) ?_
        (first | refine RS_m_yes retB_noPanic rfl rfl rfl rfl ⟨_, rfl, rfl⟩ rfl (ev_neqNil rfl rfl) ?_ | refine RS_m_yes retB_noPanic rfl rfl rfl rfl ⟨_, rfl, rfl⟩ rfl (ev_neqPtr rfl rfl) ?_)
        refine RS_m_yes retB_noPanic rfl rfl rfl rfl ⟨_, rfl, rfl⟩ rfl (ev_move rfl) ?_
        refine RS_m_yes retB_noPanic rfl rfl rfl rfl ⟨_, rfl, rfl⟩ rfl (ev_move rfl) ?_
        (first | refine RS_m_yes retB_noPanic rfl rfl rfl rfl ⟨_, rfl, rfl⟩ rfl (ev_nilCheck rfl) ?_ | refine RS_m_yes retB_noPanic rfl rfl rfl rfl ⟨_, rfl, rfl⟩ rfl (ev_nilCheckF (by simp) rfl) ?_)
        refine RS_m_yes retB_noPanic rfl rfl rfl rfl ⟨_, rfl, rfl⟩ rfl (ev_fieldAddr rfl) ?_
        refine RS_q_yes retB_noPanic rfl rfl rfl rfl ⟨_, rfl, rfl⟩ rfl (ev_load rfl (by repeat' first | exact Ld.blk rfl | assumption | apply Ld.skip | apply Ld.app)) ?_
        (first | refine RS_m_yes retB_noPanic rfl rfl rfl rfl ⟨_, rfl, rfl⟩ rfl (ev_nilCheck rfl) ?_ | refine RS_m_yes retB_noPanic rfl rfl rfl rfl ⟨_, rfl, rfl⟩ rfl (ev_nilCheckF (by simp) rfl) ?_)
        refine RS_m_yes retB_noPanic rfl rfl rfl rfl ⟨_, rfl, rfl⟩ rfl (ev_fieldAddr rfl) ?_
        refine RS_q_yes retB_noPanic rfl rfl rfl rfl ⟨_, rfl, rfl⟩ rfl (ev_loadN rfl (by repeat' first | exact LdN.blk rfl | assumption | apply LdN.skip | apply LdN.app)) ?_
        refine RS_m_yes retB_noPanic rfl rfl rfl rfl ⟨_, rfl, rfl⟩ rfl (ev_move rfl) ?_
        (first | refine RS_m_yes retB_noPanic rfl rfl rfl rfl ⟨_, rfl, rfl⟩ rfl (ev_nilCheck rfl) ?_ | refine RS_m_yes retB_noPanic rfl rfl rfl rfl ⟨_, rfl, rfl⟩ rfl (ev_nilCheckF (by simp) rfl) ?_)
        refine RS_m_yes retB_noPanic rfl rfl rfl rfl ⟨_, rfl, rfl⟩ rfl (ev_fieldAddr rfl) ?_
        refine RS_q_yes retB_noPanic rfl rfl rfl rfl ⟨_, rfl, rfl⟩ rfl (ev_load rfl (by repeat' first | exact Ld.blk rfl | assumption | apply Ld.skip | apply Ld.app)) ?_
        (first | refine RS_m_yes retB_noPanic rfl rfl rfl rfl ⟨_, rfl, rfl⟩ rfl (ev_nilCheck rfl) ?_ | refine RS_m_yes retB_noPanic rfl rfl rfl rfl ⟨_, rfl, rfl⟩ rfl (ev_nilCheckF (by simp) rfl) ?_)
        refine RS_m_yes retB_noPanic rfl rfl rfl rfl ⟨_, rfl, rfl⟩ rfl (ev_fieldAddr rfl) ?_
        refine RS_q_yes retB_noPanic rfl rfl rfl rfl ⟨_, rfl, rfl⟩ rfl (ev_loadN rfl (by repeat' first | exact LdN.blk rfl | assumption | apply LdN.skip | apply LdN.app)) ?_
        refine RS_e (RE_eff_yes rfl rfl rfl ⟨_, rfl, rfl⟩ rfl (eff_call rfl (under_ctr c d _)) ?_); rintro _ _ ⟨rfl, rfl⟩; refine ⟨_, fun _ s => s, (by first | ((repeat first | exact fun _ s => s | apply en_keep | apply en_drop | apply en_app) <;> fail) | ((repeat first | exact en_refl | (apply en_blk; focus ((repeat' first | exact Pick.here | apply Pick.skip | apply Pick.app); done); focus rfl) | (apply en_own; focus ((repeat' first | exact Pick.here | apply Pick.skip | apply Pick.app); done); focus rfl) | (apply en_pick; focus ((repeat' first | exact Pick.here | apply Pick.skip | apply Pick.app); done)) | apply en_drop | apply en_app) <;> fail)), ?_⟩
        refine RS_m_yes retB_noPanic rfl rfl rfl rfl ⟨_, rfl, rfl⟩ rfl (ev_pick_t rfl rfl rfl) ?_
        refine RS_m retB_noPanic rfl rfl rfl rfl (ev_pick_f rfl rfl rfl) ?_
        refine RS_m retB_noPanic rfl rfl rfl rfl (ev_assign rfl) ?_
        refine RS_nil ?_
        have hlk : ∀ r ∈ (PT.node c cs cl ch).els, r = c ∨ und r c = true := fun r hr => by
          rcases List.mem_cons.1 hr with h | h
          · exact .inl h
          · exact .inr (hok.1.2.2.2.2 r h)
        have hhk : ∀ r ∈ (PT.node d ds dl dh).els, r = d ∨ und r d = true := fun r hr => by
          rcases List.mem_cons.1 hr with h | h
          · exact .inl h
          · exact .inr (hok.2.1.2.2.2.2 r h)
        have hcd : c ≠ d := fun e => by
          have q1 := hok.2.2.1 c (by simp [PT.els])
          have q2 := hok.2.2.2.1 d (by simp [PT.els])
          rw [e, q2] at q1; cases q1
        (repeat first | refine G_seq ?_ | refine G_skip ?_ | refine G_endblk ?_ | refine G_block ?_ | refine G_exit rfl ?_)
        refine G_condB rfl (fun h1 => ?_) (fun h1 => ?_)
        · (repeat first | refine G_seq ?_ | refine G_skip ?_ | refine G_endblk ?_ | refine G_block ?_ | refine G_exit rfl ?_)
          refine G_region ?_
          refine GO_q rfl rfl (ev_move rfl) ?_
          (first | refine GO_q rfl rfl (ev_nilCheck rfl) ?_ | refine GO_q rfl rfl (ev_nilCheckF (by simp) rfl) ?_)
          refine GO_q rfl rfl (ev_fieldAddr rfl) ?_
          refine GO_q rfl rfl (ev_assign rfl) ?_
          refine GO_nil ?_
          (repeat first | refine G_seq ?_ | refine G_skip ?_ | refine G_endblk ?_ | refine G_block ?_ | refine G_exit rfl ?_)
          refine G_inv true ⟨d, ds, dl, dh, rfl, fun r hr => ?_⟩ ⟨rfl, rfl, trivial⟩ (by (repeat first | exact en_refl | apply en_nilI | apply en_nodeI | (apply en_blk; focus ((repeat' first | exact Pick.here | apply Pick.skip | apply Pick.app); done); focus rfl) | (apply en_own; focus ((repeat' first | exact Pick.here | apply Pick.skip | apply Pick.app); done); focus rfl) | (apply en_pick; focus ((repeat' first | exact Pick.here | apply Pick.skip | apply Pick.app); done)) | apply en_drop | apply en_app) <;> fail)
          rcases hlk r hr with rfl | h
          · exact h1
          · exact und_trans h h1
        · (repeat first | refine G_seq ?_ | refine G_skip ?_ | refine G_endblk ?_ | refine G_block ?_ | refine G_exit rfl ?_)
          refine G_region ?_
          refine GO_q rfl rfl (ev_move rfl) ?_
          (first | refine GO_q rfl rfl (ev_nilCheck rfl) ?_ | refine GO_q rfl rfl (ev_nilCheckF (by simp) rfl) ?_)
          refine GO_q rfl rfl (ev_fieldAddr rfl) ?_
          refine GO_q rfl rfl (ev_assign rfl) ?_
          refine GO_nil ?_
          (repeat first | refine G_seq ?_ | refine G_skip ?_ | refine G_endblk ?_ | refine G_block ?_ | refine G_exit rfl ?_)
          refine G_inv false ⟨c, cs, cl, ch, rfl, fun r hr => ?_⟩ ⟨rfl, rfl, trivial⟩ (by (repeat first | exact en_refl | apply en_nilI | apply en_nodeI | (apply en_blk; focus ((repeat' first | exact Pick.here | apply Pick.skip | apply Pick.app); done); focus rfl) | (apply en_own; focus ((repeat' first | exact Pick.here | apply Pick.skip | apply Pick.app); done); focus rfl) | (apply en_pick; focus ((repeat' first | exact Pick.here | apply Pick.skip | apply Pick.app); done)) | apply en_drop | apply en_app) <;> fail)
          have h2 := und_total hcd h1
          rcases hhk r hr with rfl | h
          · exact h2
          · exact und_trans h h2
    · rintro side hside
      cases side with
      | true =>
        rw [if_pos rfl] at hside
        obtain ⟨c, cs, cl, ch, rfl, hund⟩ := hside
        have hco := hok.2.1
        refine G_heap (L' := ptH lo al :: ptH (.node c cs cl ch) ah :: blk b 108 (nodeC p s al ah (lo.size + 1 + (PT.node c cs cl ch).size)) :: F :: L) (by (repeat first | exact en_refl | (apply en_blk; focus ((repeat' first | exact Pick.here | apply Pick.skip | apply Pick.app); done); focus rfl) | (apply en_own; focus ((repeat' first | exact Pick.here | apply Pick.skip | apply Pick.app); done); focus rfl) | (apply en_pick; focus ((repeat' first | exact Pick.here | apply Pick.skip | apply Pick.app); done)) | apply en_drop | apply en_app) <;> fail) ?_
        refine G_node ?_
        rintro bc l1 l2 rfl
        (repeat first | refine G_seq ?_ | refine G_skip ?_ | refine G_endblk ?_ | refine G_block ?_ | refine G_exit rfl ?_)
        (repeat first | refine G_seq ?_ | refine G_skip ?_ | refine G_endblk ?_ | refine G_block ?_ | refine G_exit rfl ?_)
        refine G_region ?_
        refine GO_q rfl rfl (ev_move rfl) ?_
        refine GO_q rfl rfl (ev_move rfl) ?_
        (first | refine GO_q rfl rfl (ev_nilCheck rfl) ?_ | refine GO_q rfl rfl (ev_nilCheckF (by simp) rfl) ?_)
        refine GO_q rfl rfl (ev_load rfl (by repeat' first | exact Ld.blk rfl | assumption | apply Ld.skip | apply Ld.app)) ?_
        (first | refine GO_q rfl rfl (ev_nilCheck rfl) ?_ | refine GO_q rfl rfl (ev_nilCheckF (by simp) rfl) ?_)
        refine GO_q rfl rfl (ev_fieldAddr rfl) ?_
        refine GO_q rfl rfl (ev_loadN rfl (by repeat' first | exact LdN.blk rfl | assumption | apply LdN.skip | apply LdN.app)) ?_
        (first | refine GO_q rfl rfl (ev_nilCheck rfl) ?_ | refine GO_q rfl rfl (ev_nilCheckF (by simp) rfl) ?_)
        refine GO_q rfl rfl (ev_fieldAddr rfl) ?_
        refine GO_eff rfl rfl (eff_storeN rfl rfl rfl rfl (by repeat' first | exact Upd.here rfl | apply Upd.skip | apply Upd.app)) ?_; rintro _ _ ⟨rfl, rfl⟩
        refine GO_nil ?_
        rw [PT.size_node] at hf hsz
        (repeat first | refine G_seq ?_ | refine G_skip ?_ | refine G_endblk ?_ | refine G_block ?_ | refine G_exit rfl ?_)
        refine G_region ?_
        refine GO_q rfl rfl (ev_move rfl) ?_
        refine GO_q rfl rfl (ev_move rfl) ?_
        (first | refine GO_q rfl rfl (ev_nilCheck rfl) ?_ | refine GO_q rfl rfl (ev_nilCheckF (by simp) rfl) ?_)
        refine GO_q rfl rfl (ev_load rfl (by repeat' first | exact Ld.blk rfl | assumption | apply Ld.skip | apply Ld.app)) ?_
        refine GO_eff rfl rfl (eff_call rfl (Ctr.pre (M := ptH (.node c cs cl ch) (some ⟨bc, 0, none⟩) :: blk b 108 (nodeC c s al (some ⟨bc, 0, none⟩) (lo.size + 1 + (PT.node c cs cl ch).size)) :: ptH lo al :: F :: L) (by (repeat first | exact en_refl | apply en_nodeI | (apply en_blk; focus ((repeat' first | exact Pick.here | apply Pick.skip | apply Pick.app); done); focus rfl) | (apply en_own; focus ((repeat' first | exact Pick.here | apply Pick.skip | apply Pick.app); done); focus rfl) | (apply en_pick; focus ((repeat' first | exact Pick.here | apply Pick.skip | apply Pick.app); done)) | apply en_drop | apply en_app) <;> fail) (ih c cs cl ch _ _ (by omega) hco hbal.2.1 (by omega)))) ?_; rintro _ _ ⟨a2, t2, rfl, o2, rfl⟩
        (first | refine GO_q rfl rfl (ev_nilCheck rfl) ?_ | refine GO_q rfl rfl (ev_nilCheckF (by simp) rfl) ?_)
        refine GO_eff rfl rfl (eff_store rfl rfl rfl (by repeat' first | exact Upd.here rfl | apply Upd.skip | apply Upd.app)) ?_; rintro _ _ ⟨rfl, rfl⟩
        refine GO_nil ?_
        have k1 : (PT.node c s lo t2).Ok := ⟨hok.1, o2.ok, hok.2.2.1, fun r hr => hok.2.2.2.1 r (List.mem_cons_of_mem _ (o2.perm.subset hr)), fun r hr => by
          rcases List.mem_append.1 hr with h | h
          · exact hund r h
          · exact hco.2.2.2.2 r (o2.perm.subset h)⟩
        have k2 : (PT.node c s lo t2).els.Perm (lo.els ++ (PT.node c cs cl ch).els) := by
          refine .trans (.cons c ((List.Perm.refl lo.els).append o2.perm)) ?_
          exact List.perm_middle.symm
        have k3 : lo.size + t2.size + 1 ≤ 100000 := by rw [o2.size, List.length_append, PT.els_length, PT.els_length]; omega
        (repeat first | refine G_seq ?_ | refine G_skip ?_ | refine G_endblk ?_ | refine G_block ?_ | refine G_exit rfl ?_)
        refine G_region ?_
        refine GO_q rfl rfl (ev_move rfl) ?_
        refine GO_eff rfl rfl (eff_call rfl (Ctr.pre (M := blk b 108 (nodeC c s al a2 (lo.size + 1 + (PT.node c cs cl ch).size)) :: ptH lo al :: ptH t2 a2 :: F :: L) (by (repeat first | exact en_refl | (apply en_blk; focus ((repeat' first | exact Pick.here | apply Pick.skip | apply Pick.app); done); focus rfl) | (apply en_own; focus ((repeat' first | exact Pick.here | apply Pick.skip | apply Pick.app); done); focus rfl) | (apply en_pick; focus ((repeat' first | exact Pick.here | apply Pick.skip | apply Pick.app); done)) | apply en_drop | apply en_app) <;> fail) (even_ctr c s lo t2 b _ al a2 _ _ k1 hbal.1 o2.bal k3 k2))) ?_; rintro _ _ ⟨a9, t9, rfl, o9, rfl⟩
        refine GO_q rfl rfl (ev_assign rfl) ?_
        refine GO_nil ?_
        (repeat first | refine G_seq ?_ | refine G_skip ?_ | refine G_endblk ?_ | refine G_block ?_ | refine G_exit rfl ?_)
        exact G_ret (L' := ptH t9 a9 :: L) rfl (.tmp rfl .nil) (by (repeat first | exact en_refl | (apply en_blk; focus ((repeat' first | exact Pick.here | apply Pick.skip | apply Pick.app); done); focus rfl) | (apply en_own; focus ((repeat' first | exact Pick.here | apply Pick.skip | apply Pick.app); done); focus rfl) | (apply en_pick; focus ((repeat' first | exact Pick.here | apply Pick.skip | apply Pick.app); done)) | apply en_drop | apply en_app) <;> fail) ⟨a9, t9, rfl, o9, rfl⟩
      | false =>
        rw [if_neg (by simp)] at hside
        obtain ⟨c, cs, cl, ch, rfl, hund⟩ := hside
        have hco := hok.1
        refine G_heap (L' := ptH hi ah :: ptH (.node c cs cl ch) al :: blk b 108 (nodeC p s al ah ((PT.node c cs cl ch).size + 1 + hi.size)) :: F :: L) (by (repeat first | exact en_refl | (apply en_blk; focus ((repeat' first | exact Pick.here | apply Pick.skip | apply Pick.app); done); focus rfl) | (apply en_own; focus ((repeat' first | exact Pick.here | apply Pick.skip | apply Pick.app); done); focus rfl) | (apply en_pick; focus ((repeat' first | exact Pick.here | apply Pick.skip | apply Pick.app); done)) | apply en_drop | apply en_app) <;> fail) ?_
        refine G_node ?_
        rintro bc l1 l2 rfl
        (repeat first | refine G_seq ?_ | refine G_skip ?_ | refine G_endblk ?_ | refine G_block ?_ | refine G_exit rfl ?_)
        (repeat first | refine G_seq ?_ | refine G_skip ?_ | refine G_endblk ?_ | refine G_block ?_ | refine G_exit rfl ?_)
        refine G_region ?_
        refine GO_q rfl rfl (ev_move rfl) ?_
        refine GO_q rfl rfl (ev_move rfl) ?_
        (first | refine GO_q rfl rfl (ev_nilCheck rfl) ?_ | refine GO_q rfl rfl (ev_nilCheckF (by simp) rfl) ?_)
        refine GO_q rfl rfl (ev_load rfl (by repeat' first | exact Ld.blk rfl | assumption | apply Ld.skip | apply Ld.app)) ?_
        (first | refine GO_q rfl rfl (ev_nilCheck rfl) ?_ | refine GO_q rfl rfl (ev_nilCheckF (by simp) rfl) ?_)
        refine GO_q rfl rfl (ev_fieldAddr rfl) ?_
        refine GO_q rfl rfl (ev_loadN rfl (by repeat' first | exact LdN.blk rfl | assumption | apply LdN.skip | apply LdN.app)) ?_
        (first | refine GO_q rfl rfl (ev_nilCheck rfl) ?_ | refine GO_q rfl rfl (ev_nilCheckF (by simp) rfl) ?_)
        refine GO_q rfl rfl (ev_fieldAddr rfl) ?_
        refine GO_eff rfl rfl (eff_storeN rfl rfl rfl rfl (by repeat' first | exact Upd.here rfl | apply Upd.skip | apply Upd.app)) ?_; rintro _ _ ⟨rfl, rfl⟩
        refine GO_nil ?_
        rw [PT.size_node] at hf hsz
        (repeat first | refine G_seq ?_ | refine G_skip ?_ | refine G_endblk ?_ | refine G_block ?_ | refine G_exit rfl ?_)
        refine G_region ?_
        refine GO_q rfl rfl (ev_move rfl) ?_
        refine GO_q rfl rfl (ev_move rfl) ?_
        (first | refine GO_q rfl rfl (ev_nilCheck rfl) ?_ | refine GO_q rfl rfl (ev_nilCheckF (by simp) rfl) ?_)
        refine GO_q rfl rfl (ev_load rfl (by repeat' first | exact Ld.blk rfl | assumption | apply Ld.skip | apply Ld.app)) ?_
        refine GO_eff rfl rfl (eff_call rfl (Ctr.pre (M := ptH (.node c cs cl ch) (some ⟨bc, 0, none⟩) :: blk b 108 (nodeC c s (some ⟨bc, 0, none⟩) ah ((PT.node c cs cl ch).size + 1 + hi.size)) :: ptH hi ah :: F :: L) (by (repeat first | exact en_refl | apply en_nodeI | (apply en_blk; focus ((repeat' first | exact Pick.here | apply Pick.skip | apply Pick.app); done); focus rfl) | (apply en_own; focus ((repeat' first | exact Pick.here | apply Pick.skip | apply Pick.app); done); focus rfl) | (apply en_pick; focus ((repeat' first | exact Pick.here | apply Pick.skip | apply Pick.app); done)) | apply en_drop | apply en_app) <;> fail) (ih c cs cl ch _ _ (by omega) hco hbal.1 (by omega)))) ?_; rintro _ _ ⟨a2, t2, rfl, o2, rfl⟩
        (first | refine GO_q rfl rfl (ev_nilCheck rfl) ?_ | refine GO_q rfl rfl (ev_nilCheckF (by simp) rfl) ?_)
        refine GO_eff rfl rfl (eff_store rfl rfl rfl (by repeat' first | exact Upd.here rfl | apply Upd.skip | apply Upd.app)) ?_; rintro _ _ ⟨rfl, rfl⟩
        refine GO_nil ?_
        have k1 : (PT.node c s t2 hi).Ok := ⟨o2.ok, hok.2.1, fun r hr => hok.2.2.1 r (List.mem_cons_of_mem _ (o2.perm.subset hr)), hok.2.2.2.1, fun r hr => by
          rcases List.mem_append.1 hr with h | h
          · exact hco.2.2.2.2 r (o2.perm.subset h)
          · exact hund r h⟩
        have k2 : (PT.node c s t2 hi).els.Perm ((PT.node c cs cl ch).els ++ hi.els) := .cons c (o2.perm.append (List.Perm.refl hi.els))
        have k3 : t2.size + hi.size + 1 ≤ 100000 := by rw [o2.size, List.length_append, PT.els_length, PT.els_length]; omega
        (repeat first | refine G_seq ?_ | refine G_skip ?_ | refine G_endblk ?_ | refine G_block ?_ | refine G_exit rfl ?_)
        refine G_region ?_
        refine GO_q rfl rfl (ev_move rfl) ?_
        refine GO_eff rfl rfl (eff_call rfl (Ctr.pre (M := blk b 108 (nodeC c s a2 ah ((PT.node c cs cl ch).size + 1 + hi.size)) :: ptH t2 a2 :: ptH hi ah :: F :: L) (by (repeat first | exact en_refl | (apply en_blk; focus ((repeat' first | exact Pick.here | apply Pick.skip | apply Pick.app); done); focus rfl) | (apply en_own; focus ((repeat' first | exact Pick.here | apply Pick.skip | apply Pick.app); done); focus rfl) | (apply en_pick; focus ((repeat' first | exact Pick.here | apply Pick.skip | apply Pick.app); done)) | apply en_drop | apply en_app) <;> fail) (even_ctr c s t2 hi b _ a2 ah _ _ k1 o2.bal hbal.2.1 k3 k2))) ?_; rintro _ _ ⟨a9, t9, rfl, o9, rfl⟩
        refine GO_q rfl rfl (ev_assign rfl) ?_
        refine GO_nil ?_
        (repeat first | refine G_seq ?_ | refine G_skip ?_ | refine G_endblk ?_ | refine G_block ?_ | refine G_exit rfl ?_)
        exact G_ret (L' := ptH t9 a9 :: L) rfl (.tmp rfl .nil) (by (repeat first | exact en_refl | (apply en_blk; focus ((repeat' first | exact Pick.here | apply Pick.skip | apply Pick.app); done); focus rfl) | (apply en_own; focus ((repeat' first | exact Pick.here | apply Pick.skip | apply Pick.app); done); focus rfl) | (apply en_pick; focus ((repeat' first | exact Pick.here | apply Pick.skip | apply Pick.app); done)) | apply en_drop | apply en_app) <;> fail) ⟨a9, t9, rfl, o9, rfl⟩
theorem cut_ctr : ∀ (t : PT) (a : Option Addr) (p : Pt) (L : List HP), t.Ok → t.Bal → p ∈ t.els → t.size ≤ 100000 →
    Ctr Tryz.prog 76 #[.pointer a, p.v] (ptH t a :: L) fun v L' => MadeT (t.els.erase p) L v L'
  | .nil, a, p, L, _, _, hp, _ => by cases hp
  | .node q s lo hi, a, p, L, hok, hbal, hp, hsz => by
    have ih1 := fun a p L => cut_ctr lo a p L hok.1 hbal.1
    have ih2 := fun a p L => cut_ctr hi a p L hok.2.1 hbal.2.1
    rw [PT.size_node] at hsz
    by_cases hqp : q = p
    · subst hqp
      have he : (PT.node q s lo hi).els.erase q = lo.els ++ hi.els := by simp [PT.els]
      rw [he]
      refine Ctr_of (fn := Tryz.f76) (n := 26) Tryz.func76 rfl rfl rfl ?_
      intro g F
      refine G_node ?_
      rintro b al ah rfl
      (repeat first | refine G_seq ?_ | refine G_skip ?_ | refine G_endblk ?_ | refine G_block ?_ | refine G_exit rfl ?_)
      refine G_region ?_
      refine GO_eff rfl rfl (eff_box rfl) ?_; rintro _ _ ⟨b3, rfl, rfl⟩
      refine GO_q rfl rfl (ev_assign rfl) ?_
      refine GO_nil ?_
      (repeat first | refine G_seq ?_ | refine G_skip ?_ | refine G_endblk ?_ | refine G_block ?_ | refine G_exit rfl ?_)
      refine G_draw (.q 0 (.q 1 (.q 2 (.q 3 (.q 4 (.q 5 .nil)))))) (by kernel_rfl) (by kernel_rfl) ?_
      refine RS_m retB_noPanic rfl rfl rfl rfl (ev_move rfl) ?_
      (first | refine RS_m retB_noPanic rfl rfl rfl rfl (ev_nilCheck rfl) ?_ | refine RS_m retB_noPanic rfl rfl rfl rfl (ev_nilCheckF (by simp) rfl) ?_)
      refine RS_m retB_noPanic rfl rfl rfl rfl (ev_fieldAddr rfl) ?_
      refine RS_q retB_noPanic rfl rfl rfl rfl (ev_loadN rfl (by repeat' first | exact LdN.blk rfl | assumption | apply LdN.skip | apply LdN.app)) ?_
      refine RS_q retB_noPanic rfl rfl rfl rfl (ev_loadN rfl (by repeat' first | exact LdN.blk rfl | assumption | apply LdN.skip | apply LdN.app)) ?_
      refine RS_m retB_noPanic rfl rfl rfl rfl (ev_eqlS rfl rfl rfl rfl rfl rfl) ?_
      refine RS_nil ?_
      (repeat first | refine G_seq ?_ | refine G_skip ?_ | refine G_endblk ?_ | refine G_block ?_ | refine G_exit rfl ?_)
      refine G_cond_t rfl (decide_eq_true rfl) ?_
      (repeat first | refine G_seq ?_ | refine G_skip ?_ | refine G_endblk ?_ | refine G_block ?_ | refine G_exit rfl ?_)
      refine G_region ?_
      refine GO_q rfl rfl (ev_move rfl) ?_
      refine GO_eff rfl rfl (eff_call rfl (Ctr.pre (M := ptH (.node q s lo hi) (some ⟨b, 0, none⟩) :: F :: L) (by (repeat first | exact en_refl | apply en_nodeI | (apply en_blk; focus ((repeat' first | exact Pick.here | apply Pick.skip | apply Pick.app); done); focus rfl) | (apply en_own; focus ((repeat' first | exact Pick.here | apply Pick.skip | apply Pick.app); done); focus rfl) | (apply en_pick; focus ((repeat' first | exact Pick.here | apply Pick.skip | apply Pick.app); done)) | apply en_drop | apply en_app) <;> fail) (lift_ctr 200000 q s lo hi _ _ (by omega) hok hbal (by omega)))) ?_; rintro _ _ ⟨a2, t2, rfl, o2, rfl⟩
      refine GO_q rfl rfl (ev_assign rfl) ?_
      refine GO_nil ?_
      (repeat first | refine G_seq ?_ | refine G_skip ?_ | refine G_endblk ?_ | refine G_block ?_ | refine G_exit rfl ?_)
      exact G_ret (L' := ptH t2 a2 :: L) rfl (.tmp rfl .nil) (by (repeat first | exact en_refl | (apply en_blk; focus ((repeat' first | exact Pick.here | apply Pick.skip | apply Pick.app); done); focus rfl) | (apply en_own; focus ((repeat' first | exact Pick.here | apply Pick.skip | apply Pick.app); done); focus rfl) | (apply en_pick; focus ((repeat' first | exact Pick.here | apply Pick.skip | apply Pick.app); done)) | apply en_drop | apply en_app) <;> fail) ⟨a2, t2, rfl, o2, rfl⟩
    · have hne : ¬ [q.id, q.x, q.y] = [p.id, p.x, p.y] := fun h => hqp (by
        simp only [List.cons.injEq, and_true] at h
        rw [Pt.ext_iff']
        exact h)
      have hp2 : p ∈ lo.els ++ hi.els := by
        rcases List.mem_cons.1 hp with h | h
        · exact absurd h.symm hqp
        · exact h
      have he : (PT.node q s lo hi).els.erase p = q :: (lo.els ++ hi.els).erase p := by
        show (q :: (lo.els ++ hi.els)).erase p = _
        rw [List.erase_cons_tail (by simpa using hqp)]
      rw [he]
      refine Ctr_of (fn := Tryz.f76) (n := 26) Tryz.func76 rfl rfl rfl ?_
      intro g F
      refine G_node ?_
      rintro b al ah rfl
      (repeat first | refine G_seq ?_ | refine G_skip ?_ | refine G_endblk ?_ | refine G_block ?_ | refine G_exit rfl ?_)
      refine G_region ?_
      refine GO_eff rfl rfl (eff_box rfl) ?_; rintro _ _ ⟨b3, rfl, rfl⟩
      refine GO_q rfl rfl (ev_assign rfl) ?_
      refine GO_nil ?_
      (repeat first | refine G_seq ?_ | refine G_skip ?_ | refine G_endblk ?_ | refine G_block ?_ | refine G_exit rfl ?_)
      refine G_draw (.q 0 (.q 1 (.q 2 (.q 3 (.q 4 (.q 5 .nil)))))) (by kernel_rfl) (by kernel_rfl) ?_
      refine RS_m retB_noPanic rfl rfl rfl rfl (ev_move rfl) ?_
      (first | refine RS_m retB_noPanic rfl rfl rfl rfl (ev_nilCheck rfl) ?_ | refine RS_m retB_noPanic rfl rfl rfl rfl (ev_nilCheckF (by simp) rfl) ?_)
      refine RS_m retB_noPanic rfl rfl rfl rfl (ev_fieldAddr rfl) ?_
      refine RS_q retB_noPanic rfl rfl rfl rfl (ev_loadN rfl (by repeat' first | exact LdN.blk rfl | assumption | apply LdN.skip | apply LdN.app)) ?_
      refine RS_q retB_noPanic rfl rfl rfl rfl (ev_loadN rfl (by repeat' first | exact LdN.blk rfl | assumption | apply LdN.skip | apply LdN.app)) ?_
      refine RS_m retB_noPanic rfl rfl rfl rfl (ev_eqlS rfl rfl rfl rfl rfl rfl) ?_
      refine RS_nil ?_
      (repeat first | refine G_seq ?_ | refine G_skip ?_ | refine G_endblk ?_ | refine G_block ?_ | refine G_exit rfl ?_)
      refine G_cond_f rfl (decide_eq_false hne) ?_
      (repeat first | refine G_seq ?_ | refine G_skip ?_ | refine G_endblk ?_ | refine G_block ?_ | refine G_exit rfl ?_)
      refine G_region ?_
      refine GO_q rfl rfl (ev_move rfl) ?_
      refine GO_q rfl rfl (ev_loadN rfl (by repeat' first | exact LdN.blk rfl | assumption | apply LdN.skip | apply LdN.app)) ?_
      refine GO_eff rfl rfl (eff_call rfl (kid_ctr p s b _ (by repeat' first | exact LdN.blk rfl | assumption | apply LdN.skip | apply LdN.app))) ?_; rintro _ _ ⟨rfl, rfl⟩
      refine GO_q rfl rfl (ev_assign rfl) ?_
      refine GO_nil ?_
      cases hb : beh p s with
      | true =>
        have hp3 : p ∈ hi.els := by
          rcases List.mem_append.1 hp2 with h | h
          · have := hok.2.2.1 p h; rw [hb] at this; cases this
          · exact h
        have hp4 : p ∉ lo.els := fun h => by have := hok.2.2.1 p h; rw [hb] at this; cases this
        (repeat first | refine G_seq ?_ | refine G_skip ?_ | refine G_endblk ?_ | refine G_block ?_ | refine G_exit rfl ?_)
        refine G_drawE 3 (.q 0 (.q 1 (.q 2 (.q 3 (.q 4 (.e 5 (.q 6 (.e 7 .nil)))))))) (by kernel_rfl) (by kernel_rfl) ?_
        refine RS_m retB_noPanic rfl rfl rfl rfl (ev_move rfl) ?_
        refine RS_m retB_noPanic rfl rfl rfl rfl (ev_move rfl) ?_
        (first | refine RS_m retB_noPanic rfl rfl rfl rfl (ev_nilCheck rfl) ?_ | refine RS_m retB_noPanic rfl rfl rfl rfl (ev_nilCheckF (by simp) rfl) ?_)
        refine RS_q retB_noPanic rfl rfl rfl rfl (ev_load rfl (by repeat' first | exact Ld.blk rfl | assumption | apply Ld.skip | apply Ld.app)) ?_
        refine RS_q retB_noPanic rfl rfl rfl rfl (ev_loadN rfl (by repeat' first | exact LdN.blk rfl | assumption | apply LdN.skip | apply LdN.app)) ?_
        refine RS_e (RE_cmp (by kernel_rfl) rfl rfl rfl (eff_call rfl (Ctr.pick (by repeat' first | exact Pick.here | apply Pick.skip | apply Pick.app) (ih2 ah p _ hp3 (by omega)))) ?_); rintro _ _ ⟨a2, t2, rfl, o2, rfl⟩
        (first | refine RS_m retB_noPanic rfl rfl rfl rfl (ev_nilCheck rfl) ?_ | refine RS_m retB_noPanic rfl rfl rfl rfl (ev_nilCheckF (by simp) rfl) ?_)
        refine RS_e (RE_last (by kernel_rfl) rfl rfl rfl (eff_store rfl rfl rfl (by repeat' first | exact Upd.here rfl | apply Upd.skip | apply Upd.app)) ?_); rintro _ _ ⟨rfl, rfl⟩
        have m2 : ∀ r ∈ t2.els, r ∈ hi.els := fun r hr => List.mem_of_mem_erase (o2.perm.subset hr)
        have k1 : (PT.node q s lo t2).Ok := ⟨hok.1, o2.ok, hok.2.2.1, fun r hr => hok.2.2.2.1 r (m2 r hr), fun r hr => by
          rcases List.mem_append.1 hr with h | h
          · exact hok.2.2.2.2 r (List.mem_append.2 (.inl h))
          · exact hok.2.2.2.2 r (List.mem_append.2 (.inr (m2 r h)))⟩
        have k2 : (PT.node q s lo t2).els.Perm (q :: (lo.els ++ hi.els).erase p) := by
          rw [List.erase_append_right _ hp4]
          exact .cons q ((List.Perm.refl lo.els).append o2.perm)
        have k3 : lo.size + t2.size + 1 ≤ 100000 := by
          have := List.length_erase_of_mem hp3
          rw [o2.size, this, PT.els_length]; omega
        (repeat first | refine G_seq ?_ | refine G_skip ?_ | refine G_endblk ?_ | refine G_block ?_ | refine G_exit rfl ?_)
        refine G_region ?_
        refine GO_q rfl rfl (ev_move rfl) ?_
        refine GO_eff rfl rfl (eff_call rfl (Ctr.pre (M := blk b 108 (nodeC q s al a2 (lo.size + 1 + hi.size)) :: ptH lo al :: ptH t2 a2 :: F :: L) (by (repeat first | exact en_refl | (apply en_blk; focus ((repeat' first | exact Pick.here | apply Pick.skip | apply Pick.app); done); focus rfl) | (apply en_own; focus ((repeat' first | exact Pick.here | apply Pick.skip | apply Pick.app); done); focus rfl) | (apply en_pick; focus ((repeat' first | exact Pick.here | apply Pick.skip | apply Pick.app); done)) | apply en_drop | apply en_app) <;> fail) (even_ctr q s lo t2 b _ al a2 _ _ k1 hbal.1 o2.bal k3 k2))) ?_; rintro _ _ ⟨a9, t9, rfl, o9, rfl⟩
        refine GO_q rfl rfl (ev_assign rfl) ?_
        refine GO_nil ?_
        (repeat first | refine G_seq ?_ | refine G_skip ?_ | refine G_endblk ?_ | refine G_block ?_ | refine G_exit rfl ?_)
        exact G_ret (L' := ptH t9 a9 :: L) rfl (.tmp rfl .nil) (by (repeat first | exact en_refl | (apply en_blk; focus ((repeat' first | exact Pick.here | apply Pick.skip | apply Pick.app); done); focus rfl) | (apply en_own; focus ((repeat' first | exact Pick.here | apply Pick.skip | apply Pick.app); done); focus rfl) | (apply en_pick; focus ((repeat' first | exact Pick.here | apply Pick.skip | apply Pick.app); done)) | apply en_drop | apply en_app) <;> fail) ⟨a9, t9, rfl, o9, rfl⟩
      | false =>
        have hp3 : p ∈ lo.els := by
          rcases List.mem_append.1 hp2 with h | h
          · exact h
          · have := hok.2.2.2.1 p h; rw [hb] at this; cases this
        (repeat first | refine G_seq ?_ | refine G_skip ?_ | refine G_endblk ?_ | refine G_block ?_ | refine G_exit rfl ?_)
        refine G_drawE 2 (.q 0 (.q 1 (.q 2 (.q 3 (.q 4 (.e 5 (.q 6 (.e 7 .nil)))))))) (by kernel_rfl) (by kernel_rfl) ?_
        refine RS_m retB_noPanic rfl rfl rfl rfl (ev_move rfl) ?_
        refine RS_m retB_noPanic rfl rfl rfl rfl (ev_move rfl) ?_
        (first | refine RS_m retB_noPanic rfl rfl rfl rfl (ev_nilCheck rfl) ?_ | refine RS_m retB_noPanic rfl rfl rfl rfl (ev_nilCheckF (by simp) rfl) ?_)
        refine RS_q retB_noPanic rfl rfl rfl rfl (ev_load rfl (by repeat' first | exact Ld.blk rfl | assumption | apply Ld.skip | apply Ld.app)) ?_
        refine RS_q retB_noPanic rfl rfl rfl rfl (ev_loadN rfl (by repeat' first | exact LdN.blk rfl | assumption | apply LdN.skip | apply LdN.app)) ?_
        refine RS_e (RE_cmp (by kernel_rfl) rfl rfl rfl (eff_call rfl (Ctr.pick (by repeat' first | exact Pick.here | apply Pick.skip | apply Pick.app) (ih1 al p _ hp3 (by omega)))) ?_); rintro _ _ ⟨a2, t2, rfl, o2, rfl⟩
        (first | refine RS_m retB_noPanic rfl rfl rfl rfl (ev_nilCheck rfl) ?_ | refine RS_m retB_noPanic rfl rfl rfl rfl (ev_nilCheckF (by simp) rfl) ?_)
        refine RS_e (RE_last (by kernel_rfl) rfl rfl rfl (eff_store rfl rfl rfl (by repeat' first | exact Upd.here rfl | apply Upd.skip | apply Upd.app)) ?_); rintro _ _ ⟨rfl, rfl⟩
        have m2 : ∀ r ∈ t2.els, r ∈ lo.els := fun r hr => List.mem_of_mem_erase (o2.perm.subset hr)
        have k1 : (PT.node q s t2 hi).Ok := ⟨o2.ok, hok.2.1, fun r hr => hok.2.2.1 r (m2 r hr), hok.2.2.2.1, fun r hr => by
          rcases List.mem_append.1 hr with h | h
          · exact hok.2.2.2.2 r (List.mem_append.2 (.inl (m2 r h)))
          · exact hok.2.2.2.2 r (List.mem_append.2 (.inr h))⟩
        have k2 : (PT.node q s t2 hi).els.Perm (q :: (lo.els ++ hi.els).erase p) := by
          rw [List.erase_append_left _ hp3]
          exact .cons q (o2.perm.append (List.Perm.refl hi.els))
        have k3 : t2.size + hi.size + 1 ≤ 100000 := by
          have := List.length_erase_of_mem hp3
          rw [o2.size, this, PT.els_length]; omega
        (repeat first | refine G_seq ?_ | refine G_skip ?_ | refine G_endblk ?_ | refine G_block ?_ | refine G_exit rfl ?_)
        refine G_region ?_
        refine GO_q rfl rfl (ev_move rfl) ?_
        refine GO_eff rfl rfl (eff_call rfl (Ctr.pre (M := blk b 108 (nodeC q s a2 ah (lo.size + 1 + hi.size)) :: ptH t2 a2 :: ptH hi ah :: F :: L) (by (repeat first | exact en_refl | (apply en_blk; focus ((repeat' first | exact Pick.here | apply Pick.skip | apply Pick.app); done); focus rfl) | (apply en_own; focus ((repeat' first | exact Pick.here | apply Pick.skip | apply Pick.app); done); focus rfl) | (apply en_pick; focus ((repeat' first | exact Pick.here | apply Pick.skip | apply Pick.app); done)) | apply en_drop | apply en_app) <;> fail) (even_ctr q s t2 hi b _ a2 ah _ _ k1 o2.bal hbal.2.1 k3 k2))) ?_; rintro _ _ ⟨a9, t9, rfl, o9, rfl⟩
        refine GO_q rfl rfl (ev_assign rfl) ?_
        refine GO_nil ?_
        (repeat first | refine G_seq ?_ | refine G_skip ?_ | refine G_endblk ?_ | refine G_block ?_ | refine G_exit rfl ?_)
        exact G_ret (L' := ptH t9 a9 :: L) rfl (.tmp rfl .nil) (by (repeat first | exact en_refl | (apply en_blk; focus ((repeat' first | exact Pick.here | apply Pick.skip | apply Pick.app); done); focus rfl) | (apply en_own; focus ((repeat' first | exact Pick.here | apply Pick.skip | apply Pick.app); done); focus rfl) | (apply en_pick; focus ((repeat' first | exact Pick.here | apply Pick.skip | apply Pick.app); done)) | apply en_drop | apply en_app) <;> fail) ⟨a9, t9, rfl, o9, rfl⟩
end Go.Proofs.YtalcanejhniepaaGreat
/- Trees that are heaps by Y, with where each node lies: what those lean on that read alone. -/
namespace Go.Proofs.YtalcanejhniepaaGreat
set_option linter.unusedVariables false
set_option linter.unusedSimpArgs false

instance : Enc (Option Addr) := ⟨1, fun a => [.pointer a], fun _ => rfl, fun _ v h => by simp at h; subst h; rfl⟩
theorem LdN.sub {L : List HP} {b o n : Nat} {vs ws : List Value} (h : LdN L b o n vs) (k m : Nat) (e : takeE (dropE vs k) m = some ws) : LdN L b (o + k) m ws :=
  ⟨(takeE_get e).1, fun j v hj => by
    have h1 := (takeE_get e).2 j v hj
    rw [dropE_eq, List.getElem?_drop] at h1
    rw [Nat.add_assoc]
    exact h.2 _ _ h1⟩
theorem Ld.of {A : HP} {N L : List HP} {a : Addr} {v : Value} (f : ∀ h, A h → sat N h) (l : Ld N a v) : Ld (A :: L) a v := ⟨fun h s => by
  obtain ⟨h1, h2, d, s1, s2, x, t⟩ := s
  exact cellOf.sub (l.1 _ (f _ x)) s1⟩
theorem LdN.of {A : HP} {N L : List HP} {b o n : Nat} {vs : List Value} (f : ∀ h, A h → sat N h) (l : LdN N b o n vs) : LdN (A :: L) b o n vs := ⟨l.1, fun j v hj => (l.2 j v hj).of f⟩
/-- A tree, and where its nodes lie. -/
inductive PA where
  | nil
  | node (b : Nat) (p s : Pt) (lo hi : PA)
def PA.addr : PA → Option Addr
  | .nil => none
  | .node b _ _ _ _ => some ⟨b, 0, none⟩
def PA.t : PA → PT
  | .nil => .nil
  | .node _ p s lo hi => .node p s lo.t hi.t
def paH : PA → HP
  | .nil => fun _ => True
  | .node b p s lo hi => fun h => sat [blk b 108 (nodeC p s lo.addr hi.addr (lo.t.size + 1 + hi.t.size)), paH lo, paH hi] h
def PIn (L : List HP) : PA → Prop
  | .nil => True
  | .node b p s lo hi => LdN L b 0 9 (nodeC p s lo.addr hi.addr (lo.t.size + 1 + hi.t.size)) ∧ PIn L lo ∧ PIn L hi
theorem PIn.mono {L M : List HP} (f : ∀ h, sat M h → sat L h) : ∀ {x : PA}, PIn L x → PIn M x
  | .nil, _ => trivial
  | .node b p s lo hi, h => ⟨h.1.mono f, h.2.1.mono f, h.2.2.mono f⟩
theorem PIn.skip {X : HP} {L : List HP} {x : PA} (h : PIn L x) : PIn (X :: L) x := h.mono fun _ s => s.tail
theorem PIn.app {N L : List HP} {x : PA} (h : PIn L x) : PIn (N ++ L) x := by
  induction N with
  | nil => exact h
  | cons X N ih => exact ih.skip
theorem PIn.of {A : HP} {N L : List HP} (f : ∀ h, A h → sat N h) : ∀ {x : PA}, PIn N x → PIn (A :: L) x
  | .nil, _ => trivial
  | .node b p s lo hi, h => ⟨h.1.of f, h.2.1.of f, h.2.2.of f⟩
theorem paH_in : ∀ (x : PA) (L : List HP), PIn (paH x :: L) x
  | .nil, _ => trivial
  | .node b p s lo hi, L => PIn.of (N := [blk b 108 (nodeC p s lo.addr hi.addr (lo.t.size + 1 + hi.t.size)), paH lo, paH hi]) (fun _ h => h) ⟨LdN.blk rfl, (paH_in lo _).skip, (paH_in hi []).skip.skip⟩
theorem ptH_open : ∀ (t : PT) (a : Option Addr) (h : Hm), ptH t a h → ∃ x : PA, x.t = t ∧ x.addr = a ∧ paH x h
  | .nil, a, h, e => ⟨.nil, rfl, Eq.symm e, trivial⟩
  | .node p s lo hi, a, h, ⟨⟨b, al, ah⟩, e, h1, h2, d, s1, s2, q, k1, k2, d2, t1, t2, ql, j1, j2, d3, u1, u2, qh, z⟩ => by
    obtain ⟨x, rfl, rfl, hx⟩ := ptH_open lo _ _ ql
    obtain ⟨y, rfl, rfl, hy⟩ := ptH_open hi _ _ qh
    exact ⟨.node b p s x y, rfl, e.symm, h1, h2, d, s1, s2, q, k1, k2, d2, t1, t2, hx, j1, j2, d3, u1, u2, hy, z⟩
theorem paH_close : ∀ (x : PA) (h : Hm), paH x h → ptH x.t x.addr h
  | .nil, _, _ => rfl
  | .node b p s lo hi, h, ⟨h1, h2, d, s1, s2, q, k1, k2, d2, t1, t2, ql, j1, j2, d3, u1, u2, qh, z⟩ =>
    ⟨(b, lo.addr, hi.addr), rfl, h1, h2, d, s1, s2, q, k1, k2, d2, t1, t2, paH_close lo _ ql, j1, j2, d3, u1, u2, paH_close hi _ qh, z⟩
theorem en_pa {L M : List HP} {x : PA} {t : PT} {a : Option Addr} (h1 : x.t = t) (h2 : x.addr = a) (f : ∀ h, sat L h → sat (paH x :: M) h) : ∀ h, sat L h → sat (ptH t a :: M) h := fun h s => by
  subst h1 h2
  exact sat.head (N := [ptH x.t x.addr]) (fun h q => sat.one (paH_close x h q)) (f h s)
theorem Ctr.pa {P : Program} {f : FuncId} {args : Array Value} {L : List HP} {t : PT} {a : Option Addr} {post : Value → List HP → Prop} (h : ∀ x : PA, x.t = t → x.addr = a → Ctr P f args (paH x :: L) post) : Ctr P f args (ptH t a :: L) post := fun g F w hw => by
  obtain ⟨h1, h2, d, s1, s2, q, l⟩ := hw.s.swap
  obtain ⟨x, e1, e2, hx⟩ := ptH_open t a _ q
  exact h x e1 e2 g F w ⟨hw.g, sat.swap ⟨h1, h2, d, s1, s2, hx, l⟩⟩
structure PF (L : List HP) (b : Nat) (p s : Pt) (lo hi : PA) : Prop where
  f_lo : Ld L ⟨b, 0 + 6, none⟩ (.pointer lo.addr)
  f_hi : Ld L ⟨b, 0 + 7, none⟩ (.pointer hi.addr)
  f_n : Ld L ⟨b, 0 + 8, none⟩ (.int .i64 (lo.t.size + 1 + hi.t.size : Nat))
  f_p : LdN L b (0 + 0) 3 [.int .i64 p.id, .int .i64 p.x, .int .i64 p.y]
  f_s : LdN L b (0 + 3) 3 [.int .i64 s.id, .int .i64 s.x, .int .i64 s.y]
  f_pid : Ld L ⟨b, 0 + 0 + 0, none⟩ (.int .i64 p.id)
  f_px : Ld L ⟨b, 0 + 0 + 1, none⟩ (.int .i64 p.x)
  f_py : Ld L ⟨b, 0 + 0 + 2, none⟩ (.int .i64 p.y)
  f_sx : Ld L ⟨b, 0 + 3 + 1, none⟩ (.int .i64 s.x)
theorem PIn.f {L : List HP} {b : Nat} {p s : Pt} {lo hi : PA} (h : PIn L (.node b p s lo hi)) : PF L b p s lo hi :=
  have hp := h.1.sub 0 3 rfl
  have hs := h.1.sub 3 3 rfl
  ⟨h.1.at_ (i := 6) rfl, h.1.at_ (i := 7) rfl, h.1.at_ (i := 8) rfl, hp, hs, hp.at_ (i := 0) rfl, hp.at_ (i := 1) rfl, hp.at_ (i := 2) rfl, hs.at_ (i := 1) rfl⟩
end Go.Proofs.YtalcanejhniepaaGreat
/- Trees that are heaps by Y: depth, size, look. -/
namespace Go.Proofs.YtalcanejhniepaaGreat
attribute [local irreducible] sat
set_option linter.unusedVariables false
set_option linter.unusedSimpArgs false
set_option maxRecDepth 100000

def PT.depth : PT → Nat
  | .nil => 0
  | .node _ _ lo hi => max lo.depth hi.depth + 1
theorem PT.depth_le : ∀ t : PT, t.depth ≤ t.size
  | .nil => Nat.le_refl _
  | .node p s lo hi => by
    have h1 := depth_le lo
    have h2 := depth_le hi
    simp only [PT.depth, PT.size]; omega
theorem rsize_ctr (x : PA) (L : List HP) (h : PIn L x) : Ctr Tryz.prog 52 #[.pointer x.addr] L fun v L' => v = .int .i64 (x.t.size : Nat) ∧ L' = L := by
  cases x with
  | nil =>
    refine Ctr_of (fn := Tryz.f52) (n := 9) Tryz.func52 rfl rfl rfl ?_
    intro g F
    (repeat first | refine G_seq ?_ | refine G_skip ?_ | refine G_endblk ?_ | refine G_block ?_ | refine G_exit rfl ?_)
    refine G_region ?_
    refine GO_q rfl rfl (ev_assign rfl) ?_
    refine GO_nil ?_
    (repeat first | refine G_seq ?_ | refine G_skip ?_ | refine G_endblk ?_ | refine G_block ?_ | refine G_exit rfl ?_)
    refine G_region ?_
    refine GO_q rfl rfl (ev_move rfl) ?_
    (first | refine GO_q rfl rfl (ev_eqlNil rfl rfl) ?_ | refine GO_q rfl rfl (ev_eqlPtr rfl rfl) ?_)
    refine GO_nil ?_
    (repeat first | refine G_seq ?_ | refine G_skip ?_ | refine G_endblk ?_ | refine G_block ?_ | refine G_exit rfl ?_)
    refine G_cond_t rfl rfl ?_
    (repeat first | refine G_seq ?_ | refine G_skip ?_ | refine G_endblk ?_ | refine G_block ?_ | refine G_exit rfl ?_)
    refine G_region ?_
    refine GO_q rfl rfl (ev_assign rfl) ?_
    refine GO_nil ?_
    (repeat first | refine G_seq ?_ | refine G_skip ?_ | refine G_endblk ?_ | refine G_block ?_ | refine G_exit rfl ?_)
    refine G_ret rfl (.tmp rfl .nil) (by (repeat first | exact fun _ s => s | apply en_keep | apply en_drop | apply en_app) <;> fail) ⟨rfl, rfl⟩
  | node b p s lo hi =>
    obtain ⟨q1, q2, q3, q4, q5, q6, q7, q8, q9⟩ := h.f
    refine Ctr_of (fn := Tryz.f52) (n := 9) Tryz.func52 rfl rfl rfl ?_
    intro g F
    (repeat first | refine G_seq ?_ | refine G_skip ?_ | refine G_endblk ?_ | refine G_block ?_ | refine G_exit rfl ?_)
    refine G_region ?_
    refine GO_q rfl rfl (ev_assign rfl) ?_
    refine GO_nil ?_
    (repeat first | refine G_seq ?_ | refine G_skip ?_ | refine G_endblk ?_ | refine G_block ?_ | refine G_exit rfl ?_)
    refine G_region ?_
    refine GO_q rfl rfl (ev_move rfl) ?_
    (first | refine GO_q rfl rfl (ev_eqlNil rfl rfl) ?_ | refine GO_q rfl rfl (ev_eqlPtr rfl rfl) ?_)
    refine GO_nil ?_
    (repeat first | refine G_seq ?_ | refine G_skip ?_ | refine G_endblk ?_ | refine G_block ?_ | refine G_exit rfl ?_)
    refine G_cond_f rfl rfl ?_
    (repeat first | refine G_seq ?_ | refine G_skip ?_ | refine G_endblk ?_ | refine G_block ?_ | refine G_exit rfl ?_)
    refine G_region ?_
    refine GO_q rfl rfl (ev_move rfl) ?_
    (first | refine GO_q rfl rfl (ev_nilCheck rfl) ?_ | refine GO_q rfl rfl (ev_nilCheckF (by simp) rfl) ?_)
    refine GO_q rfl rfl (ev_fieldAddr rfl) ?_
    refine GO_q rfl rfl (ev_load rfl (by repeat' first | exact Ld.blk rfl | assumption | apply Ld.skip | apply Ld.app)) ?_
    refine GO_q rfl rfl (ev_assign rfl) ?_
    refine GO_nil ?_
    (repeat first | refine G_seq ?_ | refine G_skip ?_ | refine G_endblk ?_ | refine G_block ?_ | refine G_exit rfl ?_)
    refine G_ret rfl (.tmp rfl .nil) (by (repeat first | exact fun _ s => s | apply en_keep | apply en_drop | apply en_app) <;> fail) ⟨rfl, rfl⟩
/-- Three of four again and again. -/
def bnd : Nat → Nat → Nat
  | 0, _ => 0
  | f + 1, n => if n < 1 then 0 else bnd f (3 * n / 4) + 1
theorem bnd_fuel : ∀ (f g n : Nat), n ≤ f → n ≤ g → bnd f n = bnd g n
  | 0, 0, n, _, _ => rfl
  | 0, g + 1, n, h, _ => by
    have : n = 0 := by omega
    subst this; rfl
  | f + 1, 0, n, _, h => by
    have : n = 0 := by omega
    subst this; rfl
  | f + 1, g + 1, n, h1, h2 => by
    unfold bnd
    by_cases h : n < 1
    · rw [if_pos h, if_pos h]
    · rw [if_neg h, if_neg h, bnd_fuel f g (3 * n / 4) (by omega) (by omega)]
def bnd1 (n : Nat) : Nat := bnd n n
theorem bnd1_zero : bnd1 0 = 0 := rfl
theorem bnd1_step {n : Nat} (h : 1 ≤ n) : bnd1 n = bnd1 (3 * n / 4) + 1 := by
  unfold bnd1
  obtain ⟨m, rfl⟩ : ∃ m, n = m + 1 := ⟨n - 1, by omega⟩
  conv => lhs; unfold bnd
  rw [if_neg (by omega), bnd_fuel m (3 * (m + 1) / 4) _ (by omega) (Nat.le_refl _)]
theorem bnd1_mono : ∀ (m n : Nat), n ≤ m → bnd1 n ≤ bnd1 m := by
  intro m
  induction m using Nat.strongRecOn with
  | _ m ih =>
    intro n hn
    rcases Nat.eq_zero_or_pos n with h | h
    · subst h; exact Nat.zero_le _
    · rw [bnd1_step h, bnd1_step (n := m) (by omega)]
      have := ih (3 * m / 4) (by omega) (3 * n / 4) (by omega)
      omega
theorem PT.depth_bnd : ∀ {t : PT}, t.Bal → t.depth ≤ bnd1 t.size
  | .nil, _ => Nat.zero_le _
  | .node p s lo hi, h => by
    have h1 := depth_bnd h.1
    have h2 := depth_bnd h.2.1
    have h3 := h.2.2
    have m1 := bnd1_mono (3 * (lo.size + 1 + hi.size) / 4) lo.size (by omega)
    have m2 := bnd1_mono (3 * (lo.size + 1 + hi.size) / 4) hi.size (by omega)
    simp only [PT.depth, PT.size]
    rw [bnd1_step (by omega)]
    omega
/-- How deep a tree of so many may be. -/
def bound (n : Nat) : Nat := if n < 1 then 0 else bnd1 n + 1
end Go.Proofs.YtalcanejhniepaaGreat
