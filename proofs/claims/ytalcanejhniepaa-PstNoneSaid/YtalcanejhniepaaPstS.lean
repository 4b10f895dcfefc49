/- Trees that are heaps by Y, as sets of points. -/
import Derived.Test.YtalcanejhniepaaPstC
namespace Go.Proofs.Ytalcanejhniepaa
set_option linter.unusedVariables false
set_option linter.unusedSimpArgs false

/-- A tree at a place, with just these points. -/
def treeS (b : Nat) (most : Int) (l : List Pt) : HP := fun h => ∃ x : PA, x.t.Of l ∧ sat [blk b 91 (treeC x most), paH x] h
/-- A function that reads alone, by whatever stands for a part. -/
theorem Ctr.read {P : Program} {f : FuncId} {args : Array Value} {L : List HP} {A : HP} {ι : Type} {φ : ι → Prop} {N : ι → List HP} {R : Value → List HP → Prop} (op : ∀ h, A h → ∃ i, φ i ∧ sat (N i) h) (cl : ∀ i, φ i → ∀ h, sat (N i) h → A h)
    (C : ∀ i, φ i → Ctr P f args (N i ++ L) fun v L' => ∃ X, R v X ∧ L' = X ++ (N i ++ L)) : Ctr P f args (A :: L) fun v L' => ∃ X, R v X ∧ L' = X ++ (A :: L) := fun g F w hw => by
  obtain ⟨h1, h2, d, s1, s2, q, l⟩ := hw.s.swap
  obtain ⟨i, hi, hn⟩ := op _ q
  have hs : sat (N i ++ (F :: L)) w.hm := sat.head (A := fun h => h = h1) (fun _ e => e ▸ hn) ⟨h1, h2, d, s1, s2, rfl, l⟩
  have hs2 : sat (F :: (N i ++ L)) w.hm := hs.perm List.perm_middle
  refine (C i hi g F w ⟨hw.g, hs2⟩).mono fun e w' ⟨v, L', e1, ⟨X, r, e2⟩, hw'⟩ => ?_
  subst e2
  exact ⟨v, _, e1, ⟨X, r, rfl⟩, hw'.mono (en_keep (en_appk fun _ s => sat.fold (cl i hi) s))⟩
theorem treeS_open {b : Nat} {most : Int} {l : List Pt} : ∀ h, treeS b most l h → ∃ x : PA, x.t.Of l ∧ sat [blk b 91 (treeC x most), paH x] h := fun _ h => h
theorem treeS_close {b : Nat} {most : Int} {l : List Pt} : ∀ x : PA, x.t.Of l → ∀ h, sat [blk b 91 (treeC x most), paH x] h → treeS b most l h := fun x o _ s => ⟨x, o, s⟩
/-- .. of a tree. -/
theorem Ctr.treeR {P : Program} {f : FuncId} {args : Array Value} {L : List HP} {b : Nat} {most : Int} {l : List Pt} {R : Value → List HP → Prop}
    (C : ∀ (x : PA) (L' : List HP), x.t.Of l → LdN L' b 0 2 (treeC x most) → PIn L' x → Ctr P f args L' fun v L'' => ∃ X, R v X ∧ L'' = X ++ L') : Ctr P f args (treeS b most l :: L) fun v L' => ∃ X, R v X ∧ L' = X ++ (treeS b most l :: L) :=
  Ctr.read (ι := PA) (φ := fun x => x.t.Of l) (N := fun x => [blk b 91 (treeC x most), paH x]) treeS_open treeS_close fun x hx => C x _ hx (LdN.blk rfl) (paH_in x L).skip
/-- .. that leaves nothing. -/
theorem Ctr.tree0 {P : Program} {f : FuncId} {args : Array Value} {L : List HP} {b : Nat} {most : Int} {l : List Pt} {R : Value → Prop}
    (C : ∀ (x : PA) (L' : List HP), x.t.Of l → LdN L' b 0 2 (treeC x most) → PIn L' x → Ctr P f args L' fun v L'' => R v ∧ L'' = L') : Ctr P f args (treeS b most l :: L) fun v L' => R v ∧ L' = treeS b most l :: L :=
  (Ctr.treeR (R := fun v X => R v ∧ X = []) fun x L' o h hx => (C x L' o h hx).mono fun v L'' ⟨r, e⟩ => ⟨[], ⟨r, rfl⟩, e⟩).mono fun v L' ⟨X, ⟨r, e1⟩, e2⟩ => by subst e1; exact ⟨r, e2⟩
/-- .. that leaves a slice of its own. -/
theorem Ctr.treeM {P : Program} {f : FuncId} {args : Array Value} {L : List HP} {b : Nat} {most : Int} {l : List Pt} {T : TypeId} {α : Type} [E : Enc α] {m : List α}
    (C : ∀ (x : PA) (L' : List HP), x.t.Of l → LdN L' b 0 2 (treeC x most) → PIn L' x → Ctr P f args L' fun v L'' => Made T m L' v L'') : Ctr P f args (treeS b most l :: L) fun v L' => Made T m (treeS b most l :: L) v L' :=
  (Ctr.treeR (R := fun v X => ∃ A c, v = .slice A m.length c ∧ (0 < m.length → ∃ b, A = some ⟨b, 0, none⟩) ∧ X = [own T E.sz A m.length c (flat m)]) fun x L' o h hx => (C x L' o h hx).mono fun v L'' ⟨A, c, e1, e2, e3⟩ => ⟨_, ⟨A, c, e1, e2, rfl⟩, e3⟩).mono
    fun v L' ⟨X, ⟨A, c, e1, e2, e3⟩, e4⟩ => by subst e3; exact ⟨A, c, e1, e2, e4⟩
/-- A tree is opened. -/
theorem Ctr.tree {P : Program} {f : FuncId} {args : Array Value} {L : List HP} {b : Nat} {most : Int} {l : List Pt} {post : Value → List HP → Prop} (C : ∀ x : PA, x.t.Of l → Ctr P f args (blk b 91 (treeC x most) :: paH x :: L) post) : Ctr P f args (treeS b most l :: L) post := fun g F w hw => by
  obtain ⟨h1, h2, d, s1, s2, ⟨x, o, q⟩, t⟩ := hw.s.swap
  have hs : sat ([blk b 91 (treeC x most), paH x] ++ (F :: L)) w.hm := sat.head (A := fun h => h = h1) (fun _ e => e ▸ q) ⟨h1, h2, d, s1, s2, rfl, t⟩
  exact C x o g F w ⟨hw.g, hs.perm (List.perm_middle (l₁ := [blk b 91 (treeC x most), paH x]))⟩
theorem paH_pt {x : PA} : ∀ h, paH x h → ptH x.t x.addr h := paH_close x
/-- .. and closed: whatever tree lies there. -/
theorem en_tree {L M : List HP} {b : Nat} {a : Option Addr} {most : Int} {t : PT} {l : List Pt} (o : t.Of l) (f : ∀ h, sat L h → sat (blk b 91 [.pointer a, .int .i64 most] :: ptH t a :: M) h) : ∀ h, sat L h → sat (treeS b most l :: M) h := fun h s => by
  refine sat.fold (N := [_, _]) (fun h q => ?_) (f h s)
  obtain ⟨h1, h2, d, s1, s2, q1, k1, k2, d2, t1, t2, q2, z⟩ := q
  obtain ⟨x, rfl, rfl, hx⟩ := ptH_open t a _ q2
  exact ⟨x, o, h1, h2, d, s1, s2, q1, k1, k2, d2, t1, t2, hx, z⟩
/-- What a window sees of a tree. -/
theorem PA.seen_perm (w : Wn) : ∀ x : PA, x.t.Ok → (x.seen w).Perm ((x.t.els.filter fun p => w.sees p.x p.y).map (·.id))
  | .nil, _ => .refl _
  | .node b p s lo hi, h => by
    have h1 := seen_perm w lo h.1
    have h2 := seen_perm w hi h.2.1
    simp only [PA.t] at h
    have hlow : p.y < w.y → ∀ q ∈ lo.t.els ++ hi.t.els, w.sees q.x q.y = false := fun hy q hq => by
      have := h.2.2.2.2 q hq
      unfold und at this
      rw [decide_eq_true_eq] at this
      have := up_le q p (by omega)
      exact wn_low w q (by omega)
    have flo : (if !lo.isN && decide (w.x1 ≤ s.x) then lo.seen w else []).Perm ((lo.t.els.filter fun p => w.sees p.x p.y).map (·.id)) := by
      cases lo with
      | nil => exact .refl _
      | node b' p' s' lo' hi' =>
        by_cases hc : w.x1 ≤ s.x
        · simpa [PA.isN, hc] using h1
        · have e : ((PA.node b' p' s' lo' hi').t.els.filter fun p => w.sees p.x p.y) = [] := by
            rw [List.filter_eq_nil_iff]
            intro q hq
            have := h.2.2.1 q hq
            rw [beh_false] at this
            have h9 : ¬ s.less q = true := by rw [this]; simp
            rw [Pt.less_iff] at h9
            simp [Wn.sees, wthn]
            omega
          rw [e]
          simp [hc]
    have fhi : (if !hi.isN && decide (s.x ≤ w.x2) then hi.seen w else []).Perm ((hi.t.els.filter fun p => w.sees p.x p.y).map (·.id)) := by
      cases hi with
      | nil => exact .refl _
      | node b' p' s' lo' hi' =>
        by_cases hc : s.x ≤ w.x2
        · simpa [PA.isN, hc] using h2
        · have e : ((PA.node b' p' s' lo' hi').t.els.filter fun p => w.sees p.x p.y) = [] := by
            rw [List.filter_eq_nil_iff]
            intro q hq
            have := h.2.2.2.1 q hq
            rw [beh_true, Pt.less_iff] at this
            simp [Wn.sees, wthn]
            omega
          rw [e]
          simp [hc]
    simp only [PA.seen, PA.t, PT.els, List.filter_cons, List.filter_append]
    have tail : (if p.y < w.y then [] else (if !lo.isN && decide (w.x1 ≤ s.x) then lo.seen w else []) ++ (if !hi.isN && decide (s.x ≤ w.x2) then hi.seen w else [])).Perm (((lo.t.els.filter fun p => w.sees p.x p.y) ++ (hi.t.els.filter fun p => w.sees p.x p.y)).map (·.id)) := by
      by_cases hy : p.y < w.y
      · rw [if_pos hy, ← List.filter_append]
        have e : ((lo.t.els ++ hi.t.els).filter fun p => w.sees p.x p.y) = [] := by
          rw [List.filter_eq_nil_iff]
          intro q hq
          rw [hlow hy q hq]; simp
        rw [e]; exact .refl _
      · rw [if_neg hy, List.map_append]
        exact flo.append fhi
    cases hs : w.sees p.x p.y with
    | true => simpa [hs] using tail.cons p.id
    | false => simpa [hs] using tail
end Go.Proofs.Ytalcanejhniepaa
