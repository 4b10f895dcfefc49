/- Trees of cells, and the references' sets, each as one part of the heap. -/
import Derived.Test.YtmgkmammkmlakaaSgC
namespace Go.Proofs.Ytmgkmammkmlakaa
set_option linter.unusedVariables false
set_option linter.unusedSimpArgs false
set_option maxRecDepth 100000

theorem Ctr.readG {P : Program} {f : FuncId} {args : Array Value} {L : List HP} {A : HP} {ι : Type} {φ : ι → Prop} {N : ι → List HP} {R : Value → List HP → Prop} (op : ∀ h, A h → ∃ i, φ i ∧ sat (N i) h) (cl : ∀ i, φ i → ∀ h, sat (N i) h → A h)
    (C : ∀ i, φ i → Ctr P f args (N i ++ L) fun v L' => ∃ X, R v X ∧ L' = X ++ (N i ++ L)) : Ctr P f args (A :: L) fun v L' => ∃ X, R v X ∧ L' = X ++ (A :: L) := fun g F w hw => by
  obtain ⟨h1, h2, d, s1, s2, q, l⟩ := hw.s.swap
  obtain ⟨i, hi, hn⟩ := op _ q
  have hs : sat (N i ++ (F :: L)) w.hm := sat.head (A := fun h => h = h1) (fun _ e => e ▸ hn) ⟨h1, h2, d, s1, s2, rfl, l⟩
  have hs2 : sat (F :: (N i ++ L)) w.hm := hs.perm List.perm_middle
  refine (C i hi g F w ⟨hw.g, hs2⟩).mono fun e w' ⟨v, L', e1, ⟨X, r, e2⟩, hw'⟩ => ?_
  subst e2
  exact ⟨v, _, e1, ⟨X, r, rfl⟩, hw'.mono (en_keep (en_appk fun _ s => sat.fold (cl i hi) s))⟩
/-- Intervals as they came, numbers, and how often all was built anew. -/
structure St where
  k : List Pt
  R : List Int
  b : Nat
def segZ (t : Nat) (most : Int) (s : St) (z : RA × SA × Option Addr × Nat × List Pt) : List HP := tgL t z.1 z.2.1 z.2.2.1 z.2.2.2.1 z.2.2.2.2 most s.b []
def segO (s : St) (z : RA × SA × Option Addr × Nat × List Pt) : Prop := TOk z.1 z.2.1 z.2.2.1 z.2.2.2.1 z.2.2.2.2 s.k s.R
def segH (t : Nat) (most : Int) (s : St) : HP := fun h => ∃ z, segO s z ∧ sat (segZ t most s z) h
def setO (s : St) (z : Option Addr × Nat × Option Addr × Nat) : Prop := QOk z.1 z.2.1 s.k z.2.2.1 z.2.2.2 s.R
section
variable {P : Program} {f : FuncId} {args : Array Value} {L : List HP} {t b : Nat} {most : Int} {s : St} {T : TypeId} {α : Type} [E : Enc α] {m : List α}
/-- A function that reads a tree. -/
theorem Ctr.segR {R : Value → List HP → Prop} (C : ∀ (x : RA) (X : SA) (A : Option Addr) (c : Nat) (l : List Pt) (L' : List HP), TOk x X A c l s.k s.R → TIn L' t x X A c l most s.b → Ctr P f args L' fun v L'' => ∃ N, R v N ∧ L'' = N ++ L') : Ctr P f args (segH t most s :: L) fun v L' => ∃ N, R v N ∧ L' = N ++ (segH t most s :: L) :=
  Ctr.readG (ι := RA × SA × Option Addr × Nat × List Pt) (φ := segO s) (N := segZ t most s) (fun _ h => h) (fun z o _ h => ⟨z, o, h⟩) fun z o => C z.1 z.2.1 z.2.2.1 z.2.2.2.1 z.2.2.2.2 _ o (by
    have := o.in_ t most s.b L
    exact this)
theorem Ctr.seg0 {R : Value → Prop} (C : ∀ (x : RA) (X : SA) (A : Option Addr) (c : Nat) (l : List Pt) (L' : List HP), TOk x X A c l s.k s.R → TIn L' t x X A c l most s.b → Ctr P f args L' fun v L'' => R v ∧ L'' = L') : Ctr P f args (segH t most s :: L) fun v L' => R v ∧ L' = segH t most s :: L :=
  (Ctr.segR (R := fun v X => R v ∧ X = []) fun x X A c l L' o h => (C x X A c l L' o h).mono fun v L'' ⟨r, e⟩ => ⟨[], ⟨r, rfl⟩, e⟩).mono fun v L' ⟨X, ⟨r, e1⟩, e2⟩ => by subst e1; exact ⟨r, e2⟩
theorem Ctr.segM (C : ∀ (x : RA) (X : SA) (A : Option Addr) (c : Nat) (l : List Pt) (L' : List HP), TOk x X A c l s.k s.R → TIn L' t x X A c l most s.b → Ctr P f args L' fun v L'' => Made T m L' v L'') : Ctr P f args (segH t most s :: L) fun v L' => Made T m (segH t most s :: L) v L' :=
  (Ctr.segR (R := fun v X => ∃ A c, v = .slice A m.length c ∧ (0 < m.length → ∃ b, A = some ⟨b, 0, none⟩) ∧ X = [own T E.sz A m.length c (flat m)]) fun x X A c l L' o h => (C x X A c l L' o h).mono fun v L'' ⟨A, c, e1, e2, e3⟩ => ⟨_, ⟨A, c, e1, e2, rfl⟩, e3⟩).mono
    fun v L' ⟨X, ⟨A, c, e1, e2, e3⟩, e4⟩ => by subst e3; exact ⟨A, c, e1, e2, e4⟩
/-- A function that turns it. -/
theorem Ctr.segT {φ : Value → Prop} {s' : St} (C : ∀ (x : RA) (X : SA) (A : Option Addr) (c : Nat) (l : List Pt), TOk x X A c l s.k s.R → Ctr P f args (tgL t x X A c l most s.b L) fun v L' => φ v ∧ ∃ x' X' A' c' l', TOk x' X' A' c' l' s'.k s'.R ∧ L' = tgL t x' X' A' c' l' most s'.b L) : Ctr P f args (segH t most s :: L) fun v L' => φ v ∧ L' = segH t most s' :: L :=
  (Ctr.open (ι := RA × SA × Option Addr × Nat × List Pt) (N := segZ t most s) (Fa := segO s) (fun _ h => h) fun z o => C z.1 z.2.1 z.2.2.1 z.2.2.2.1 z.2.2.2.2 o).post' fun v L' hm ⟨e1, x', X', A', c', l', o', e2⟩ q => ⟨_, ⟨e1, rfl⟩, by
    subst e2
    exact sat.fold (N := segZ t most s' (x', X', A', c', l')) (fun h q => ⟨(x', X', A', c', l'), o', q⟩) q⟩
end
theorem seg_fair {t : Nat} {most : Int} {s : St} {L : List HP} {h : Hm} (q : sat (segH t most s :: L) h) : (∀ p ∈ s.k, p.x ≤ p.y) ∧ s.R.length ≤ 4 * s.k.length + 6 := by
  obtain ⟨h1, h2, d, s1, s2, ⟨z, o, _⟩, l⟩ := q
  have o : TOk z.1 z.2.1 z.2.2.1 z.2.2.2.1 z.2.2.2.2 s.k s.R := o
  have hl := o.perm.length_eq
  exact ⟨fun p hp => (o.ends p (o.perm.mem_iff.2 hp)).2.2, by have := o.small; omega⟩
theorem over_join {k : List Pt} (hf : ∀ p ∈ k, p.x ≤ p.y) {lo hi : Int} (h : lo ≤ hi) : srt (bgnK k lo hi ++ stabK k lo) = overK k lo hi := by
  unfold stabK bgnK overK
  rw [srt_append]
  refine srt_of_perm ?_
  unfold idsOf
  rw [← List.map_append]
  refine List.Perm.map _ ?_
  refine (perm_split _ _ k fun s _ h1 h2 => by simp at h1 h2; omega).trans (.of_eq (List.filter_congr fun s hs => ?_))
  have := hf s hs
  by_cases h1 : s.x ≤ lo
  · simp [h1, h, show s.x ≤ hi by omega, show ¬ lo < s.x by omega]
  · simp [h1, h, show lo < s.x by omega]; omega
def St.ins (s : St) (most : Int) (p : Pt) : St := if insE most s.k p = 0 then ⟨s.k ++ [p], insR s.R p, insB s.R p s.b⟩ else s
def St.del (s : St) (p : Pt) : St := if delE s.k p = 0 then ⟨s.k.erase p, delR s.R (s.k.erase p), delB s.R (s.k.erase p) s.b⟩ else s
theorem St.ins_k (s : St) (most : Int) (p : Pt) : (s.ins most p).k = insK most s.k p := by unfold St.ins insK; split <;> rfl
theorem St.ins_R (s : St) (most : Int) (p : Pt) : (s.ins most p).R = if insE most s.k p = 0 then insR s.R p else s.R := by unfold St.ins; split <;> rfl
theorem St.ins_b (s : St) (most : Int) (p : Pt) : (s.ins most p).b = if insE most s.k p = 0 then insB s.R p s.b else s.b := by unfold St.ins; split <;> rfl
theorem St.del_k (s : St) (p : Pt) : (s.del p).k = s.k.erase p := by
  unfold St.del delE
  by_cases h : p ∈ s.k
  · simp [h]
  · simp [h, List.erase_of_not_mem h]
theorem St.del_R (s : St) (p : Pt) : (s.del p).R = if delE s.k p = 0 then delR s.R (s.k.erase p) else s.R := by unfold St.del; split <;> rfl
theorem St.del_b (s : St) (p : Pt) : (s.del p).b = if delE s.k p = 0 then delB s.R (s.k.erase p) s.b else s.b := by unfold St.del; split <;> rfl
section
variable (t b : Nat) (most : Int) (s : St) (p : Pt) (L : List HP)
theorem SInsert_ctr (hk : s.k.length ≤ 100) (hb : s.b ≤ 100000) : Ctr Try.prog 9 #[.pointer (some ⟨t, 0, none⟩), p.v] (segH t most s :: L) fun v L' => v = .int .i64 (insE most s.k p) ∧ L' = segH t most (s.ins most p) :: L :=
  Ctr.segT fun x X A c l o => (tInsert_ctr t x X A c l s.k s.R most s.b p L o hk hb).mono fun v L' ⟨e1, x', X', A', c', l', o', e2⟩ => ⟨e1, by
    unfold St.ins
    split at o'
    · rename_i h
      rw [if_pos h] at e2 ⊢
      exact ⟨x', X', A', c', l', o', e2⟩
    · rename_i h
      rw [if_neg h] at e2 ⊢
      obtain ⟨rfl, rfl, rfl, rfl, rfl⟩ := o'
      exact ⟨_, _, _, _, _, o, e2⟩⟩
theorem SNew_ctr (h1 : 1 ≤ most) (h2 : most ≤ 1048576) : Ctr Try.prog 8 #[.int .i64 most] L fun v L' => ∃ t, v = .tuple #[.pointer (some ⟨t, 0, none⟩), .int .i64 0] ∧ L' = segH t most ⟨[], [], 0⟩ :: L :=
  (tNew_ctr most L h1 h2).post' fun v L' hm ⟨t, x, X, A, c, l, e1, o, e2⟩ q => ⟨_, ⟨t, e1, rfl⟩, by
    subst e2
    exact sat.fold (N := segZ t most ⟨[], [], 0⟩ (x, X, A, c, l)) (fun h q => ⟨(x, X, A, c, l), o, q⟩) q⟩
theorem SCell_ctr (v : Int) (hk : s.k.length ≤ 100) : Ctr Try.prog 41 #[.pointer (some ⟨t, 0, none⟩), .int .i64 v] (segH t most s :: L) fun r L' => r = .int .i64 (cellR s.R v : Nat) ∧ L' = segH t most s :: L :=
  Ctr.seg0 (R := fun r => r = .int .i64 (cellR s.R v : Nat)) fun x X A c l L' o h => by
    rw [← o.xR]
    exact tCell_ctr v L' h o.xo (by rw [o.xR]; have := o.small; have := o.perm.length_eq; omega)
end
end Go.Proofs.Ytmgkmammkmlakaa
