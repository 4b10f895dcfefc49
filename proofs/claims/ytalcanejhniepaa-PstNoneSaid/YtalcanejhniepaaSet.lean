/- The references' sets of points: what lies in memory. -/
import Derived.Test.YtalcanejhniepaaPstE
namespace Go.Proofs.Ytalcanejhniepaa
set_option linter.unusedVariables false
set_option linter.unusedSimpArgs false

/-- A set at a place. -/
def setS (b : Nat) (most : Int) (l : List Pt) : HP := fun h => ∃ x : Option Addr × Nat, (0 < l.length → ∃ b, x.1 = some ⟨b, 0, none⟩) ∧ sat [blk b 34 [.slice x.1 l.length x.2, .int .i64 most], own 39 3 x.1 l.length x.2 (flat l)] h
theorem Ctr.set {P : Program} {f : FuncId} {args : Array Value} {L : List HP} {b : Nat} {most : Int} {l : List Pt} {post : Value → List HP → Prop}
    (C : ∀ A c, (0 < l.length → ∃ b, A = some ⟨b, 0, none⟩) → l.length ≤ c → c ≤ maxLen → Ctr P f args (blk b 34 [.slice A l.length c, .int .i64 most] :: own 39 3 A l.length c (flat l) :: L) post) : Ctr P f args (setS b most l :: L) post := fun g F w hw => by
  obtain ⟨h1, h2, d, s1, s2, ⟨⟨A, c⟩, hA, q⟩, t⟩ := hw.s.swap
  have q0 := own.facts (L := []) q.tail
  have hs : sat ([blk b 34 [.slice A l.length c, .int .i64 most], own 39 3 A l.length c (flat l)] ++ (F :: L)) w.hm := sat.head (A := fun h => h = h1) (fun _ e => e ▸ q) ⟨h1, h2, d, s1, s2, rfl, t⟩
  exact C A c hA q0.2.1 q0.2.2.1 g F w ⟨hw.g, hs.perm (List.perm_middle (l₁ := [blk b 34 [.slice A l.length c, .int .i64 most], own 39 3 A l.length c (flat l)]))⟩
theorem en_set {L M : List HP} {b c : Nat} {A : Option Addr} {most : Int} {l : List Pt} (hA : 0 < l.length → ∃ b, A = some ⟨b, 0, none⟩) (f : ∀ h, sat L h → sat (blk b 34 [.slice A l.length c, .int .i64 most] :: own 39 3 A l.length c (flat l) :: M) h) : ∀ h, sat L h → sat (setS b most l :: M) h := fun h s =>
  sat.fold (N := [_, _]) (fun h q => ⟨(A, c), hA, q⟩) (f h s)
/-- A function that reads alone. -/
theorem Ctr.set0 {P : Program} {f : FuncId} {args : Array Value} {L : List HP} {b : Nat} {most : Int} {l : List Pt} {R : Value → Prop}
    (C : ∀ (A : Option Addr) (c : Nat) (L' : List HP), LdN L' b 0 2 [.slice A l.length c, .int .i64 most] → Rd L' A l.length l → Ctr P f args L' fun v L'' => R v ∧ L'' = L') : Ctr P f args (setS b most l :: L) fun v L' => R v ∧ L' = setS b most l :: L :=
  (Ctr.read (R := fun v X => R v ∧ X = []) (ι := Option Addr × Nat) (φ := fun x => 0 < l.length → ∃ b, x.1 = some ⟨b, 0, none⟩) (N := fun x => [blk b 34 [.slice x.1 l.length x.2, .int .i64 most], own 39 3 x.1 l.length x.2 (flat l)]) (fun _ h => h) (fun x hx h q => ⟨x, hx, q⟩)
    fun x hx => (C x.1 x.2 _ (LdN.blk rfl) (Rd.skip (Rc.own (flat_length l) hx))).mono fun v L' ⟨r, e⟩ => ⟨[], ⟨r, rfl⟩, e⟩).mono fun v L' ⟨X, ⟨r, e1⟩, e2⟩ => by subst e1; exact ⟨r, e2⟩
theorem Ctr.setM {P : Program} {f : FuncId} {args : Array Value} {L : List HP} {b : Nat} {most : Int} {l : List Pt} {T : TypeId} {α : Type} [E : Enc α] {m : List α}
    (C : ∀ (A : Option Addr) (c : Nat) (L' : List HP), LdN L' b 0 2 [.slice A l.length c, .int .i64 most] → Rd L' A l.length l → Ctr P f args L' fun v L'' => Made T m L' v L'') : Ctr P f args (setS b most l :: L) fun v L' => Made T m (setS b most l :: L) v L' :=
  (Ctr.read (R := fun v X => ∃ A c, v = .slice A m.length c ∧ (0 < m.length → ∃ b, A = some ⟨b, 0, none⟩) ∧ X = [own T E.sz A m.length c (flat m)]) (ι := Option Addr × Nat) (φ := fun x => 0 < l.length → ∃ b, x.1 = some ⟨b, 0, none⟩) (N := fun x => [blk b 34 [.slice x.1 l.length x.2, .int .i64 most], own 39 3 x.1 l.length x.2 (flat l)]) (fun _ h => h) (fun x hx h q => ⟨x, hx, q⟩)
    fun x hx => (C x.1 x.2 _ (LdN.blk rfl) (Rd.skip (Rc.own (flat_length l) hx))).mono fun v L' ⟨A, c, e1, e2, e3⟩ => ⟨_, ⟨A, c, e1, e2, rfl⟩, e3⟩).mono fun v L' ⟨X, ⟨A, c, e1, e2, e3⟩, e4⟩ => by subst e3; exact ⟨A, c, e1, e2, e4⟩
theorem idx_ne {a p : Pt} {l : List Pt} (e : a ≠ p) : (a :: l).idxOf p = l.idxOf p + 1 := by
  have : (a == p) = false := by simpa using e
  rw [List.idxOf_cons, this]; rfl
theorem idx_take (p : Pt) : ∀ (l : List Pt) (k : Nat), l[k]? = some p → p ∉ l.take k → l.idxOf p = k
  | [], k, h, _ => by simp at h
  | a :: l, 0, h, _ => by simp at h; subst h; simp
  | a :: l, k + 1, h, hn => by
    simp only [List.take_succ_cons, List.mem_cons, not_or] at hn
    rw [idx_ne (Ne.symm hn.1), idx_take p l k (by simpa using h) hn.2]
theorem erase_idx (p : Pt) : ∀ (l : List Pt), p ∈ l → l.take (l.idxOf p) ++ l.drop (l.idxOf p + 1) = l.erase p
  | [], h => by cases h
  | a :: l, h => by
    by_cases e : a = p
    · subst e; simp
    · rw [idx_ne e, List.erase_cons_tail (by simpa using e)]
      have := erase_idx p l ((List.mem_cons.1 h).resolve_left (fun h' => e h'.symm))
      simp only [List.take_succ_cons, List.drop_succ_cons, List.cons_append, this]
theorem treeS_perm {b : Nat} {most : Int} {l m : List Pt} (p : l.Perm m) {L M : List HP} (f : ∀ h, sat L h → sat (treeS b most l :: M) h) : ∀ h, sat L h → sat (treeS b most m :: M) h := fun h s =>
  sat.fold (N := [_]) (fun h q => by
    obtain ⟨h1, h2, d, s1, s2, ⟨x, o, q⟩, z⟩ := q
    exact ⟨x, o.congr p, q.up s1⟩) (f h s)
end Go.Proofs.Ytalcanejhniepaa
