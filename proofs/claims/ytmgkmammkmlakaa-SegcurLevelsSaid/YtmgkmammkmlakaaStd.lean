/- The library's functions on slices, at points. -/
import Derived.Test.YtmgkmammkmlakaaCas
import Derived.Test.YtmgkmammkmlakaaOpsN
namespace Go.Proofs.Ytmgkmammkmlakaa
set_option linter.unusedVariables false
set_option linter.unusedSimpArgs false
set_option maxRecDepth 100000

theorem Ctr.pre {P : Program} {f : FuncId} {args : Array Value} {L M : List HP} {post : Value → List HP → Prop} (hp : ∀ h, sat L h → sat M h) (h : Ctr P f args M post) : Ctr P f args L post :=
  fun g F w hw => h g F w (hw.mono fun _ s => s.cons_mono hp)
theorem Ctr.pick {P : Program} {f : FuncId} {args : Array Value} {L M : List HP} {X : HP} {post : Value → List HP → Prop} (hp : Pick X L M) (h : Ctr P f args (X :: M) post) : Ctr P f args L post :=
  h.pre fun _ s => s.perm hp.perm
/-- What a function leaves that makes a slice of its own. -/
def Made (T : TypeId) {α : Type} [E : Enc α] (l : List α) (L : List HP) (v : Value) (L' : List HP) : Prop := ∃ A c, v = .slice A l.length c ∧ (0 < l.length → ∃ b, A = some ⟨b, 0, none⟩) ∧ L' = own T E.sz A l.length c (flat l) :: L

/-- What a list reads as, one cell behind the other, that was put together of parts of others. -/
theorem put_a (F us V : List Value) (i n : Nat) (hF : F.length = n * 3) (hu : us.length = (n + 1 - i) * 3) (hV : V.length = 3) (hi : i ≤ n) :
    (((F.take (i * 3) ++ us).take (i * 3) ++ V ++ (F.take (i * 3) ++ us).drop ((i + 1) * 3)).take ((i + 1) * 3) ++ (F.drop (i * 3)).take ((n - i) * 3) ++ ((F.take (i * 3) ++ us).take (i * 3) ++ V ++ (F.take (i * 3) ++ us).drop ((i + 1) * 3)).drop ((i + 1 + (n - i)) * 3)) = F.take (i * 3) ++ V ++ F.drop (i * 3) := by
  have h1 : (F.take (i * 3)).length = i * 3 := by rw [List.length_take]; omega
  have e1 : (F.take (i * 3) ++ us).take (i * 3) = F.take (i * 3) := by rw [List.take_append_of_le_length (by omega), List.take_take, Nat.min_self]
  have h2 : (F.take (i * 3) ++ V).length = (i + 1) * 3 := by rw [List.length_append, h1, hV]; omega
  rw [e1]
  generalize hd : (F.take (i * 3) ++ us).drop ((i + 1) * 3) = D
  have h3 : D.length = (n - i) * 3 := by rw [← hd, List.length_drop, List.length_append, h1, hu]; omega
  have e2 : (F.take (i * 3) ++ V ++ D).take ((i + 1) * 3) = F.take (i * 3) ++ V := by rw [← h2]; exact List.take_left
  have e3 : (F.take (i * 3) ++ V ++ D).drop ((i + 1 + (n - i)) * 3) = [] := List.drop_of_length_le (by rw [List.length_append, h2, h3]; omega)
  have e4 : (F.drop (i * 3)).take ((n - i) * 3) = F.drop (i * 3) := List.take_of_length_le (by rw [List.length_drop]; omega)
  rw [e2, e3, e4, List.append_nil]
theorem put_b (F us V : List Value) (i n : Nat) (hF : F.length = n * 3) (hu : us.length = 3) (hV : V.length = 3) (hi : i ≤ n) :
    (((F ++ us).take ((i + 1) * 3) ++ ((F ++ us).drop (i * 3)).take ((n - i) * 3) ++ (F ++ us).drop ((i + 1 + (n - i)) * 3)).take (i * 3) ++ V ++ ((F ++ us).take ((i + 1) * 3) ++ ((F ++ us).drop (i * 3)).take ((n - i) * 3) ++ (F ++ us).drop ((i + 1 + (n - i)) * 3)).drop ((i + 1) * 3)) = F.take (i * 3) ++ V ++ F.drop (i * 3) := by
  have hl : (F ++ us).length = (n + 1) * 3 := by rw [List.length_append, hF, hu]; omega
  have e3 : (F ++ us).drop ((i + 1 + (n - i)) * 3) = [] := List.drop_of_length_le (by rw [hl]; omega)
  have e1 : ((F ++ us).take ((i + 1) * 3)).length = (i + 1) * 3 := by rw [List.length_take, hl]; omega
  have e2 : ((F ++ us).drop (i * 3)).take ((n - i) * 3) = F.drop (i * 3) := by
    rw [List.drop_append_of_le_length (by omega), List.take_append_of_le_length (by rw [List.length_drop]; omega), List.take_of_length_le (by rw [List.length_drop]; omega)]
  rw [e3, e2, List.append_nil, List.take_append_of_le_length (by rw [e1]; omega), List.take_take, Nat.min_eq_left (by omega), List.take_append_of_le_length (by omega)]
  have e4 : ((F ++ us).take ((i + 1) * 3) ++ F.drop (i * 3)).drop ((i + 1) * 3) = F.drop (i * 3) := by
    rw [List.drop_append_of_le_length (by omega), List.drop_of_length_le (by omega), List.nil_append]
  rw [e4]
end Go.Proofs.Ytmgkmammkmlakaa
