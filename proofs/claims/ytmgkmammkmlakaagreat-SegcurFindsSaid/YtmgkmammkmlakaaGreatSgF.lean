/- Trees of cells, and the references' sets, each as one part of the heap. -/
import Derived.Test.YtmgkmammkmlakaaGreatSgC
namespace Go.Proofs.YtmgkmammkmlakaaGreat
set_option linter.unusedVariables false
set_option linter.unusedSimpArgs false
set_option maxRecDepth 100000

theorem Ctr.readG {P : Program} {f : FuncId} {args : Array Value} {L : List HP} {A : HP} {ι : Type} {φ : ι → Prop} {N : ι → List HP} {R : Value → List HP → Prop} (op : ∀ h, A h → ∃ i, φ i ∧ sat (N i) h) (cl : ∀ i, φ i → ∀ h, sat (N i) h → A h)
    (C : ∀ i, φ i → Ctr P f args (N i ++ L) fun v L' => ∃ X, R v X ∧ L' = X ++ (N i ++ L)) : Ctr P f args (A :: L) fun v L' => ∃ X, R v X ∧ L' = X ++ (A :: L) := fun g F w hw => by
  obtain ⟨h1, h2, d, s1, s2, q, l⟩ := hw.s.swap
  obtain ⟨i, hi, hn⟩ := op _ q
  have hs : sat (N i ++ (F :: L)) w.hm := sat.head (A := fun h => h = h1) (fun _ e => e ▸ hn) ⟨h1, h2, d, s1, s2, rfl, l⟩
  have hs2 : sat (F :: (N i ++ L)) w.hm := hs.perm List.perm_middle
  refine (C i hi g F w ⟨hw.g, hs2⟩).mono fun e w' ⟨v, L', e1, ⟨X, r, e2⟩, hw'⟩ => ?_
  subst e2
  exact ⟨v, _, e1, ⟨X, r, rfl⟩, hw'.mono (en_keep (en_appk fun _ s => sat.fold (cl i hi) s))⟩
/-- Intervals as they came, numbers, and how often all was built anew. -/
structure St where
  k : List Pt
  R : List Int
  b : Nat
def segZ (t : Nat) (most : Int) (s : St) (z : RA × SA × Option Addr × Nat × List Pt) : List HP := tgL t z.1 z.2.1 z.2.2.1 z.2.2.2.1 z.2.2.2.2 most s.b []
def segO (s : St) (z : RA × SA × Option Addr × Nat × List Pt) : Prop := TOk z.1 z.2.1 z.2.2.1 z.2.2.2.1 z.2.2.2.2 s.k s.R
def segH (t : Nat) (most : Int) (s : St) : HP := fun h => ∃ z, segO s z ∧ sat (segZ t most s z) h
def setZ (b : Nat) (most : Int) (s : St) (z : Option Addr × Nat × Option Addr × Nat) : List HP := qsL b z.1 z.2.1 s.k most z.2.2.1 z.2.2.2 s.R s.b []
def setO (s : St) (z : Option Addr × Nat × Option Addr × Nat) : Prop := QOk z.1 z.2.1 s.k z.2.2.1 z.2.2.2 s.R
def setQ (b : Nat) (most : Int) (s : St) : HP := fun h => ∃ z, setO s z ∧ sat (setZ b most s z) h
section
variable {P : Program} {f : FuncId} {args : Array Value} {L : List HP} {t b : Nat} {most : Int} {s : St} {T : TypeId} {α : Type} [E : Enc α] {m : List α}
/-- A function that reads a tree. -/
theorem Ctr.segR {R : Value → List HP → Prop} (C : ∀ (x : RA) (X : SA) (A : Option Addr) (c : Nat) (l : List Pt) (L' : List HP), TOk x X A c l s.k s.R → TIn L' t x X A c l most s.b → Ctr P f args L' fun v L'' => ∃ N, R v N ∧ L'' = N ++ L') : Ctr P f args (segH t most s :: L) fun v L' => ∃ N, R v N ∧ L' = N ++ (segH t most s :: L) :=
  Ctr.readG (ι := RA × SA × Option Addr × Nat × List Pt) (φ := segO s) (N := segZ t most s) (fun _ h => h) (fun z o _ h => ⟨z, o, h⟩) fun z o => C z.1 z.2.1 z.2.2.1 z.2.2.2.1 z.2.2.2.2 _ o (by
    have := o.in_ t most s.b L
    exact this)
theorem Ctr.seg0 {R : Value → Prop} (C : ∀ (x : RA) (X : SA) (A : Option Addr) (c : Nat) (l : List Pt) (L' : List HP), TOk x X A c l s.k s.R → TIn L' t x X A c l most s.b → Ctr P f args L' fun v L'' => R v ∧ L'' = L') : Ctr P f args (segH t most s :: L) fun v L' => R v ∧ L' = segH t most s :: L :=
  (Ctr.segR (R := fun v X => R v ∧ X = []) fun x X A c l L' o h => (C x X A c l L' o h).mono fun v L'' ⟨r, e⟩ => ⟨[], ⟨r, rfl⟩, e⟩).mono fun v L' ⟨X, ⟨r, e1⟩, e2⟩ => by subst e1; exact ⟨r, e2⟩
theorem Ctr.segM (C : ∀ (x : RA) (X : SA) (A : Option Addr) (c : Nat) (l : List Pt) (L' : List HP), TOk x X A c l s.k s.R → TIn L' t x X A c l most s.b → Ctr P f args L' fun v L'' => Made T m L' v L'') : Ctr P f args (segH t most s :: L) fun v L' => Made T m (segH t most s :: L) v L' :=
  (Ctr.segR (R := fun v X => ∃ A c, v = .slice A m.length c ∧ (0 < m.length → ∃ b, A = some ⟨b, 0, none⟩) ∧ X = [own T E.sz A m.length c (flat m)]) fun x X A c l L' o h => (C x X A c l L' o h).mono fun v L'' ⟨A, c, e1, e2, e3⟩ => ⟨_, ⟨A, c, e1, e2, rfl⟩, e3⟩).mono
    fun v L' ⟨X, ⟨A, c, e1, e2, e3⟩, e4⟩ => by subst e3; exact ⟨A, c, e1, e2, e4⟩
/-- A function that turns it. -/
theorem Ctr.segT {φ : Value → Prop} {s' : St} (C : ∀ (x : RA) (X : SA) (A : Option Addr) (c : Nat) (l : List Pt), TOk x X A c l s.k s.R → Ctr P f args (tgL t x X A c l most s.b L) fun v L' => φ v ∧ ∃ x' X' A' c' l', TOk x' X' A' c' l' s'.k s'.R ∧ L' = tgL t x' X' A' c' l' most s'.b L) : Ctr P f args (segH t most s :: L) fun v L' => φ v ∧ L' = segH t most s' :: L :=
  (Ctr.open (ι := RA × SA × Option Addr × Nat × List Pt) (N := segZ t most s) (Fa := segO s) (fun _ h => h) fun z o => C z.1 z.2.1 z.2.2.1 z.2.2.2.1 z.2.2.2.2 o).post' fun v L' hm ⟨e1, x', X', A', c', l', o', e2⟩ q => ⟨_, ⟨e1, rfl⟩, by
    subst e2
    exact sat.fold (N := segZ t most s' (x', X', A', c', l')) (fun h q => ⟨(x', X', A', c', l'), o', q⟩) q⟩
theorem Ctr.setR {R : Value → List HP → Prop} (C : ∀ (A : Option Addr) (c : Nat) (B : Option Addr) (d : Nat) (L' : List HP), QOk A c s.k B d s.R → QIn L' b A c s.k most B d s.R s.b → Ctr P f args L' fun v L'' => ∃ N, R v N ∧ L'' = N ++ L') : Ctr P f args (setQ b most s :: L) fun v L' => ∃ N, R v N ∧ L' = N ++ (setQ b most s :: L) :=
  Ctr.readG (ι := Option Addr × Nat × Option Addr × Nat) (φ := setO s) (N := setZ b most s) (fun _ h => h) (fun z o _ h => ⟨z, o, h⟩) fun z o => C z.1 z.2.1 z.2.2.1 z.2.2.2 _ o (by
    have := o.in_ (b := b) (most := most) (built := s.b) L
    exact this)
theorem Ctr.set0' {R : Value → Prop} (C : ∀ (A : Option Addr) (c : Nat) (B : Option Addr) (d : Nat) (L' : List HP), QOk A c s.k B d s.R → QIn L' b A c s.k most B d s.R s.b → Ctr P f args L' fun v L'' => R v ∧ L'' = L') : Ctr P f args (setQ b most s :: L) fun v L' => R v ∧ L' = setQ b most s :: L :=
  (Ctr.setR (R := fun v X => R v ∧ X = []) fun A c B d L' o h => (C A c B d L' o h).mono fun v L'' ⟨r, e⟩ => ⟨[], ⟨r, rfl⟩, e⟩).mono fun v L' ⟨X, ⟨r, e1⟩, e2⟩ => by subst e1; exact ⟨r, e2⟩
theorem Ctr.setQ' (C : ∀ (A : Option Addr) (c : Nat) (B : Option Addr) (d : Nat) (L' : List HP), QOk A c s.k B d s.R → QIn L' b A c s.k most B d s.R s.b → Ctr P f args L' fun v L'' => MadeQ m L' v L'') : Ctr P f args (setQ b most s :: L) fun v L' => MadeQ m (setQ b most s :: L) v L' :=
  (Ctr.setR (R := fun v X => ∃ (Y : HP) (A : Option Addr) (c : Nat), v = .slice A m.length c ∧ m.length ≤ c ∧ c ≤ maxLen ∧ (∀ L, Rd (Y :: L) A m.length m) ∧ X = [Y]) fun A c B d L' o h => (C A c B d L' o h).mono fun v L'' ⟨Y, A, c, e1, e2, e3, e4, e5⟩ => ⟨_, ⟨Y, A, c, e1, e2, e3, e4, rfl⟩, e5⟩).mono
    fun v L' ⟨X, ⟨Y, A, c, e1, e2, e3, e4, e5⟩, e6⟩ => by subst e5; exact ⟨Y, A, c, e1, e2, e3, e4, e6⟩
theorem Ctr.setT {φ : Value → Prop} {s' : St} (C : ∀ (A : Option Addr) (c : Nat) (B : Option Addr) (d : Nat), QOk A c s.k B d s.R → Ctr P f args (qsL b A c s.k most B d s.R s.b L) fun v L' => φ v ∧ ∃ A' c' B' d', QOk A' c' s'.k B' d' s'.R ∧ L' = qsL b A' c' s'.k most B' d' s'.R s'.b L) : Ctr P f args (setQ b most s :: L) fun v L' => φ v ∧ L' = setQ b most s' :: L :=
  (Ctr.open (ι := Option Addr × Nat × Option Addr × Nat) (N := setZ b most s) (Fa := setO s) (fun _ h => h) fun z o => C z.1 z.2.1 z.2.2.1 z.2.2.2 o).post' fun v L' hm ⟨e1, A', c', B', d', o', e2⟩ q => ⟨_, ⟨e1, rfl⟩, by
    subst e2
    exact sat.fold (N := setZ b most s' (A', c', B', d')) (fun h q => ⟨(A', c', B', d'), o', q⟩) q⟩
end
theorem seg_fair {t : Nat} {most : Int} {s : St} {L : List HP} {h : Hm} (q : sat (segH t most s :: L) h) : (∀ p ∈ s.k, p.x ≤ p.y) ∧ s.R.length ≤ 4 * s.k.length + 6 := by
  obtain ⟨h1, h2, d, s1, s2, ⟨z, o, _⟩, l⟩ := q
  have o : TOk z.1 z.2.1 z.2.2.1 z.2.2.2.1 z.2.2.2.2 s.k s.R := o
  have hl := o.perm.length_eq
  exact ⟨fun p hp => (o.ends p (o.perm.mem_iff.2 hp)).2.2, by have := o.small; omega⟩
theorem over_join {k : List Pt} (hf : ∀ p ∈ k, p.x ≤ p.y) {lo hi : Int} (h : lo ≤ hi) : srt (bgnK k lo hi ++ stabK k lo) = overK k lo hi := by
  unfold stabK bgnK overK
  rw [srt_append]
  refine srt_of_perm ?_
  unfold idsOf
  rw [← List.map_append]
  refine List.Perm.map _ ?_
  refine (perm_split _ _ k fun s _ h1 h2 => by simp at h1 h2; omega).trans (.of_eq (List.filter_congr fun s hs => ?_))
  have := hf s hs
  by_cases h1 : s.x ≤ lo
  · simp [h1, h, show s.x ≤ hi by omega, show ¬ lo < s.x by omega]
  · simp [h1, h, show lo < s.x by omega]; omega
def St.ins (s : St) (most : Int) (p : Pt) : St := if insE most s.k p = 0 then ⟨s.k ++ [p], insR s.R p, insB s.R p s.b⟩ else s
def St.del (s : St) (p : Pt) : St := if delE s.k p = 0 then ⟨s.k.erase p, delR s.R (s.k.erase p), delB s.R (s.k.erase p) s.b⟩ else s
theorem St.ins_k (s : St) (most : Int) (p : Pt) : (s.ins most p).k = insK most s.k p := by unfold St.ins insK; split <;> rfl
theorem St.ins_R (s : St) (most : Int) (p : Pt) : (s.ins most p).R = if insE most s.k p = 0 then insR s.R p else s.R := by unfold St.ins; split <;> rfl
theorem St.ins_b (s : St) (most : Int) (p : Pt) : (s.ins most p).b = if insE most s.k p = 0 then insB s.R p s.b else s.b := by unfold St.ins; split <;> rfl
theorem St.del_k (s : St) (p : Pt) : (s.del p).k = s.k.erase p := by
  unfold St.del delE
  by_cases h : p ∈ s.k
  · simp [h]
  · simp [h, List.erase_of_not_mem h]
theorem St.del_R (s : St) (p : Pt) : (s.del p).R = if delE s.k p = 0 then delR s.R (s.k.erase p) else s.R := by unfold St.del; split <;> rfl
theorem St.del_b (s : St) (p : Pt) : (s.del p).b = if delE s.k p = 0 then delB s.R (s.k.erase p) s.b else s.b := by unfold St.del; split <;> rfl
section
variable (t b : Nat) (most : Int) (s : St) (p : Pt) (L : List HP)
theorem SInsert_ctr (hk : s.k.length ≤ 100) (hb : s.b ≤ 100000) : Ctr Tryz.prog 25 #[.pointer (some ⟨t, 0, none⟩), p.v] (segH t most s :: L) fun v L' => v = .int .i64 (insE most s.k p) ∧ L' = segH t most (s.ins most p) :: L :=
  Ctr.segT fun x X A c l o => (tInsert_ctr t x X A c l s.k s.R most s.b p L o hk hb).mono fun v L' ⟨e1, x', X', A', c', l', o', e2⟩ => ⟨e1, by
    unfold St.ins
    split at o'
    · rename_i h
      rw [if_pos h] at e2 ⊢
      exact ⟨x', X', A', c', l', o', e2⟩
    · rename_i h
      rw [if_neg h] at e2 ⊢
      obtain ⟨rfl, rfl, rfl, rfl, rfl⟩ := o'
      exact ⟨_, _, _, _, _, o, e2⟩⟩
theorem SDelete_ctr (hk : s.k.length ≤ 100) (hb : s.b ≤ 100000) : Ctr Tryz.prog 26 #[.pointer (some ⟨t, 0, none⟩), p.v] (segH t most s :: L) fun v L' => v = .int .i64 (delE s.k p) ∧ L' = segH t most (s.del p) :: L :=
  Ctr.segT fun x X A c l o => (tDelete_ctr t x X A c l s.k s.R most s.b p L o hk hb).mono fun v L' ⟨e1, x', X', A', c', l', o', e2⟩ => ⟨e1, by
    unfold St.del
    split at o'
    · rename_i h
      rw [if_pos h] at e2 ⊢
      exact ⟨x', X', A', c', l', o', e2⟩
    · rename_i h
      rw [if_neg h] at e2 ⊢
      obtain ⟨rfl, rfl, rfl, rfl, rfl⟩ := o'
      exact ⟨_, _, _, _, _, o, e2⟩⟩
theorem QInsert_ctr (hk : s.k.length ≤ 1000) (hR : s.R.length ≤ 10000) (hb : s.b ≤ 1000000) : Ctr Tryz.prog 76 #[.pointer (some ⟨b, 0, none⟩), p.v] (setQ b most s :: L) fun v L' => v = .int .i64 (insE most s.k p) ∧ L' = setQ b most (s.ins most p) :: L :=
  Ctr.setT fun A c B d o => by
    rw [St.ins_k, St.ins_R, St.ins_b]
    exact rInsert_ctr b A c s.k most B d s.R s.b p L o hk hR hb
theorem QDelete_ctr (hk : s.k.length ≤ 1000) (hR : s.R.length ≤ 10000) (hb : s.b ≤ 1000000) : Ctr Tryz.prog 75 #[.pointer (some ⟨b, 0, none⟩), p.v] (setQ b most s :: L) fun v L' => v = .int .i64 (delE s.k p) ∧ L' = setQ b most (s.del p) :: L :=
  Ctr.setT fun A c B d o => by
    rw [St.del_k, St.del_R, St.del_b]
    exact rDelete_ctr b A c s.k most B d s.R s.b p L o hk hR hb
theorem SCheck_ctr (hk : s.k.length ≤ 100) : Ctr Tryz.prog 30 #[.pointer (some ⟨t, 0, none⟩)] (segH t most s :: L) fun v L' => v = .bool true ∧ L' = segH t most s :: L :=
  Ctr.segT fun x X A c l o => (tCheck_ctr t x X A c l s.k s.R most s.b L o hk).mono fun v L' ⟨e1, e2⟩ => ⟨e1, x, X, A, c, l, o, e2⟩
theorem SNew_ctr (h1 : 1 ≤ most) (h2 : most ≤ 1048576) : Ctr Tryz.prog 31 #[.int .i64 most] L fun v L' => ∃ t, v = .tuple #[.pointer (some ⟨t, 0, none⟩), .int .i64 0] ∧ L' = segH t most ⟨[], [], 0⟩ :: L :=
  (tNew_ctr most L h1 h2).post' fun v L' hm ⟨t, x, X, A, c, l, e1, o, e2⟩ q => ⟨_, ⟨t, e1, rfl⟩, by
    subst e2
    exact sat.fold (N := segZ t most ⟨[], [], 0⟩ (x, X, A, c, l)) (fun h q => ⟨(x, X, A, c, l), o, q⟩) q⟩
theorem SStab_ctr (v : Int) (hk : s.k.length ≤ 100) : Ctr Tryz.prog 24 #[.pointer (some ⟨t, 0, none⟩), .int .i64 v] (segH t most s :: L) fun r L' => Made 3 (stabK s.k v) (segH t most s :: L) r L' :=
  Ctr.segM fun x X A c l L' o h => tStab_ctr v L' h o hk
theorem SBegins_ctr (lo hi : Int) (hk : s.k.length ≤ 100) : Ctr Tryz.prog 22 #[.pointer (some ⟨t, 0, none⟩), .int .i64 lo, .int .i64 hi] (segH t most s :: L) fun r L' => Made 3 (bgnK s.k lo hi) (segH t most s :: L) r L' :=
  Ctr.segM fun x X A c l L' o h => tBegins_ctr lo hi L' h o hk
theorem SOverlap_ctr (lo hi : Int) (hk : s.k.length ≤ 100) : Ctr Tryz.prog 27 #[.pointer (some ⟨t, 0, none⟩), .int .i64 lo, .int .i64 hi] (segH t most s :: L) fun r L' => Made 3 (overK s.k lo hi) (segH t most s :: L) r L' :=
  Ctr.segM fun x X A c l L' o h => tOverlap_ctr lo hi L' h o hk
theorem SLen_ctr : Ctr Tryz.prog 28 #[.pointer (some ⟨t, 0, none⟩)] (segH t most s :: L) fun r L' => r = .int .i64 (s.k.length : Nat) ∧ L' = segH t most s :: L :=
  Ctr.seg0 (R := fun v => v = .int .i64 (s.k.length : Nat)) fun x X A c l L' o h => by rw [← o.perm.length_eq]; exact tLen_ctr L' h
theorem SEnds_ctr : Ctr Tryz.prog 29 #[.pointer (some ⟨t, 0, none⟩)] (segH t most s :: L) fun r L' => r = .int .i64 (s.R.length : Nat) ∧ L' = segH t most s :: L :=
  Ctr.seg0 (R := fun v => v = .int .i64 (s.R.length : Nat)) fun x X A c l L' o h => by rw [← o.xR]; exact tEnds_ctr L' h
theorem SBuilt_ctr : Ctr Tryz.prog 35 #[.pointer (some ⟨t, 0, none⟩)] (segH t most s :: L) fun r L' => r = .int .i64 (s.b : Nat) ∧ L' = segH t most s :: L :=
  Ctr.seg0 (R := fun v => v = .int .i64 (s.b : Nat)) fun x X A c l L' o h => tBuilt_ctr L' h
theorem SHas_ctr (hk : s.k.length ≤ 100) : Ctr Tryz.prog 33 #[.pointer (some ⟨t, 0, none⟩), p.v] (segH t most s :: L) fun r L' => r = .bool (decide (p ∈ s.k)) ∧ L' = segH t most s :: L :=
  Ctr.seg0 (R := fun v => v = .bool (decide (p ∈ s.k))) fun x X A c l L' o h => by
    have hmem : decide (p ∈ l) = decide (p ∈ s.k) := decide_eq_decide.2 o.perm.mem_iff
    rw [← hmem]
    exact tHas_ctr p L' h o.asc (by rw [o.perm.length_eq]; omega)
theorem SCell_ctr (v : Int) (hk : s.k.length ≤ 100) : Ctr Tryz.prog 13 #[.pointer (some ⟨t, 0, none⟩), .int .i64 v] (segH t most s :: L) fun r L' => r = .int .i64 (cellR s.R v : Nat) ∧ L' = segH t most s :: L :=
  Ctr.seg0 (R := fun r => r = .int .i64 (cellR s.R v : Nat)) fun x X A c l L' o h => by
    rw [← o.xR]
    exact tCell_ctr v L' h o.xo (by rw [o.xR]; have := o.small; have := o.perm.length_eq; omega)
theorem QOverlap_ctr (lo hi : Int) (hk : s.k.length ≤ 1000) : Ctr Tryz.prog 20 #[.pointer (some ⟨b, 0, none⟩), .int .i64 lo, .int .i64 hi] (setQ b most s :: L) fun r L' => MadeQ (overK s.k lo hi) (setQ b most s :: L) r L' :=
  Ctr.setQ' fun A c B d L' o h => sOverlap_ctr b A c s.k most B d s.R s.b lo hi L' h hk
theorem QBegins_ctr (lo hi : Int) (hk : s.k.length ≤ 1000) : Ctr Tryz.prog 23 #[.pointer (some ⟨b, 0, none⟩), .int .i64 lo, .int .i64 hi] (setQ b most s :: L) fun r L' => MadeQ (bgnK s.k lo hi) (setQ b most s :: L) r L' :=
  Ctr.setQ' fun A c B d L' o h => sBegins_ctr b A c s.k most B d s.R s.b lo hi L' h hk
theorem QAt_ctr (hk : s.k.length ≤ 1000) : Ctr Tryz.prog 34 #[.pointer (some ⟨b, 0, none⟩), p.v] (setQ b most s :: L) fun r L' => r = .int .i64 (atS s.k p) ∧ L' = setQ b most s :: L :=
  Ctr.set0' (R := fun r => r = .int .i64 (atS s.k p)) fun A c B d L' o h => sAt_ctr b A c most s.k p L' ⟨rfl, fun j v hj => h.q.2 j v (by
    match j, hj with
    | 0, hj => exact hj
    | 1, hj => exact hj
    | j + 2, hj => simp at hj)⟩ h.k (by omega)
end
end Go.Proofs.YtmgkmammkmlakaaGreat
