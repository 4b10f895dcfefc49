/- The library's functions on slices, at points. -/
import Derived.Test.YtjgdhkilnalejaaCas
import Derived.Test.YtjgdhkilnalejaaOpsN
namespace Go.Proofs.Ytjgdhkilnalejaa
attribute [local irreducible] sat
set_option linter.unusedVariables false
set_option linter.unusedSimpArgs false
set_option maxRecDepth 100000

theorem Ctr.pre {P : Program} {f : FuncId} {args : Array Value} {L M : List HP} {post : Value → List HP → Prop} (hp : ∀ h, sat L h → sat M h) (h : Ctr P f args M post) : Ctr P f args L post :=
  fun g F w hw => h g F w (hw.mono fun _ s => s.cons_mono hp)
theorem Ctr.pick {P : Program} {f : FuncId} {args : Array Value} {L M : List HP} {X : HP} {post : Value → List HP → Prop} (hp : Pick X L M) (h : Ctr P f args (X :: M) post) : Ctr P f args L post :=
  h.pre fun _ s => s.perm hp.perm
/-- What a function leaves that makes a slice of its own. -/
def Made (T : TypeId) {α : Type} [E : Enc α] (l : List α) (L : List HP) (v : Value) (L' : List HP) : Prop := ∃ A c, v = .slice A l.length c ∧ (0 < l.length → ∃ b, A = some ⟨b, 0, none⟩) ∧ L' = own T E.sz A l.length c (flat l) :: L

/-- slices.Clone -/
theorem Clone_ctr (A : Option Addr) (n c : Nat) (l : List Pt) (L : List HP) (hl : Rd L A n l) (hn : n ≤ 1000000) :
    Ctr Try.prog 112 #[.slice A n c] L fun v L' => Made 27 l L v L' := by
  have h1 : l.length = n := hl.len (by decide)
  refine Ctr_of (fn := Try.f112) (n := 8) Try.func112 rfl rfl rfl ?_
  intro g F
  (repeat first | refine G_seq ?_ | refine G_skip ?_ | refine G_endblk ?_ | refine G_block ?_ | refine G_exit rfl ?_)
  refine G_region ?_
  refine GO_q rfl rfl (ev_assign rfl) ?_
  refine GO_nil ?_
  (repeat first | refine G_seq ?_ | refine G_skip ?_ | refine G_endblk ?_ | refine G_block ?_ | refine G_exit rfl ?_)
  refine G_region ?_
  refine GO_q rfl rfl (ev_move rfl) ?_
  refine GO_q rfl rfl (ev_eqlNilS rfl rfl) ?_
  refine GO_nil ?_
  (repeat first | refine G_seq ?_ | refine G_skip ?_ | refine G_endblk ?_ | refine G_block ?_ | refine G_exit rfl ?_)
  refine G_condB rfl (fun h2 => ?_) (fun h2 => ?_)
  · have e : A = none := by simpa using h2
    subst e
    have h3 : n = 0 := by
      rcases Nat.eq_zero_or_pos n with h | h
      · exact h
      · obtain ⟨b, o, e, _⟩ := hl.at_ h; cases e
    subst h3
    have : l = [] := List.eq_nil_of_length_eq_zero h1
    subst this
    (repeat first | refine G_seq ?_ | refine G_skip ?_ | refine G_endblk ?_ | refine G_block ?_ | refine G_exit rfl ?_)
    refine G_region ?_
    refine GO_q rfl rfl (ev_assign rfl) ?_
    refine GO_nil ?_
    (repeat first | refine G_seq ?_ | refine G_skip ?_ | refine G_endblk ?_ | refine G_block ?_ | refine G_exit rfl ?_)
    refine G_ret (L' := own 27 3 none 0 0 [] :: L) rfl (.tmp rfl .nil) ?_ ⟨none, 0, rfl, fun h => absurd h (Nat.lt_irrefl 0), rfl⟩
    exact fun h s => (own.nil_ 27 3 h s).swap
  · (repeat first | refine G_seq ?_ | refine G_skip ?_ | refine G_endblk ?_ | refine G_block ?_ | refine G_exit rfl ?_)
    refine G_region ?_
    refine GO_eff rfl rfl eff_buildSlice0 ?_; rintro _ _ ⟨b5, rfl, rfl⟩
    refine GO_q rfl rfl (ev_move rfl) ?_
    refine GO_eff rfl rfl (eff_append rfl rfl (by repeat' first | exact Pick.here | apply Pick.skip) (Rc.skip (Rc.skip hl)) ((flat_one _)) (by rfl) (by decide) (by first | omega | (simp; done) | (simp; omega)) (by first | omega | (simp; done) | (simp; omega))) ?_; rintro _ _ ⟨A7, c7, rfl, hc7, hm7, hn7, rfl⟩
    refine GO_q rfl rfl (ev_assign rfl) ?_
    refine GO_nil ?_
    rw [Nat.zero_add] at hc7 hn7
    (repeat first | refine G_seq ?_ | refine G_skip ?_ | refine G_endblk ?_ | refine G_block ?_ | refine G_exit rfl ?_)
    refine G_ret (L' := own 27 3 A7 l.length c7 (flat l) :: L) rfl (.tmp rfl .nil) ?_ ⟨A7, c7, by rw [h1]; simp [retv], by rw [h1]; exact hn7, rfl⟩
    rw [h1, Nat.zero_add, List.nil_append]
    refine en_pick (.skip (.here)) ?_
    refine en_pick (.here) ?_
    exact (by (repeat first | exact fun _ s => s | apply en_keep | apply en_drop | apply en_app) <;> fail)
/-- What a list reads as, one cell behind the other, that was put together of parts of others. -/
theorem put_a (F us V : List Value) (i n : Nat) (hF : F.length = n * 3) (hu : us.length = (n + 1 - i) * 3) (hV : V.length = 3) (hi : i ≤ n) :
    (((F.take (i * 3) ++ us).take (i * 3) ++ V ++ (F.take (i * 3) ++ us).drop ((i + 1) * 3)).take ((i + 1) * 3) ++ (F.drop (i * 3)).take ((n - i) * 3) ++ ((F.take (i * 3) ++ us).take (i * 3) ++ V ++ (F.take (i * 3) ++ us).drop ((i + 1) * 3)).drop ((i + 1 + (n - i)) * 3)) = F.take (i * 3) ++ V ++ F.drop (i * 3) := by
  have h1 : (F.take (i * 3)).length = i * 3 := by rw [List.length_take]; omega
  have e1 : (F.take (i * 3) ++ us).take (i * 3) = F.take (i * 3) := by rw [List.take_append_of_le_length (by omega), List.take_take, Nat.min_self]
  have h2 : (F.take (i * 3) ++ V).length = (i + 1) * 3 := by rw [List.length_append, h1, hV]; omega
  rw [e1]
  generalize hd : (F.take (i * 3) ++ us).drop ((i + 1) * 3) = D
  have h3 : D.length = (n - i) * 3 := by rw [← hd, List.length_drop, List.length_append, h1, hu]; omega
  have e2 : (F.take (i * 3) ++ V ++ D).take ((i + 1) * 3) = F.take (i * 3) ++ V := by rw [← h2]; exact List.take_left
  have e3 : (F.take (i * 3) ++ V ++ D).drop ((i + 1 + (n - i)) * 3) = [] := List.drop_of_length_le (by rw [List.length_append, h2, h3]; omega)
  have e4 : (F.drop (i * 3)).take ((n - i) * 3) = F.drop (i * 3) := List.take_of_length_le (by rw [List.length_drop]; omega)
  rw [e2, e3, e4, List.append_nil]
theorem put_b (F us V : List Value) (i n : Nat) (hF : F.length = n * 3) (hu : us.length = 3) (hV : V.length = 3) (hi : i ≤ n) :
    (((F ++ us).take ((i + 1) * 3) ++ ((F ++ us).drop (i * 3)).take ((n - i) * 3) ++ (F ++ us).drop ((i + 1 + (n - i)) * 3)).take (i * 3) ++ V ++ ((F ++ us).take ((i + 1) * 3) ++ ((F ++ us).drop (i * 3)).take ((n - i) * 3) ++ (F ++ us).drop ((i + 1 + (n - i)) * 3)).drop ((i + 1) * 3)) = F.take (i * 3) ++ V ++ F.drop (i * 3) := by
  have hl : (F ++ us).length = (n + 1) * 3 := by rw [List.length_append, hF, hu]; omega
  have e3 : (F ++ us).drop ((i + 1 + (n - i)) * 3) = [] := List.drop_of_length_le (by rw [hl]; omega)
  have e1 : ((F ++ us).take ((i + 1) * 3)).length = (i + 1) * 3 := by rw [List.length_take, hl]; omega
  have e2 : ((F ++ us).drop (i * 3)).take ((n - i) * 3) = F.drop (i * 3) := by
    rw [List.drop_append_of_le_length (by omega), List.take_append_of_le_length (by rw [List.length_drop]; omega), List.take_of_length_le (by rw [List.length_drop]; omega)]
  rw [e3, e2, List.append_nil, List.take_append_of_le_length (by rw [e1]; omega), List.take_take, Nat.min_eq_left (by omega), List.take_append_of_le_length (by omega)]
  have e4 : ((F ++ us).take ((i + 1) * 3) ++ F.drop (i * 3)).drop ((i + 1) * 3) = F.drop (i * 3) := by
    rw [List.drop_append_of_le_length (by omega), List.drop_of_length_le (by omega), List.nil_append]
  rw [e4]
end Go.Proofs.Ytjgdhkilnalejaa
