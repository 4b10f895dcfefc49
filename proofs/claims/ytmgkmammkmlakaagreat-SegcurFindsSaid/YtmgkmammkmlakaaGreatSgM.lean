/- What is done, the reference's set laid open. -/
import Derived.Test.YtmgkmammkmlakaaGreatSgL
import Derived.Test.YtmgkmammkmlakaaGreatGBrA
namespace Go.Proofs.YtmgkmammkmlakaaGreat
set_option linter.unusedVariables false
set_option linter.unusedSimpArgs false

theorem qset_open {b : Nat} {most : Int} {s : St} {M : List HP} {hm : Hm} (h : sat (setQ b most s :: M) hm) : ∃ A c B d, QOk A c s.k B d s.R ∧ sat (qsL b A c s.k most B d s.R s.b M) hm := by
  obtain ⟨h1, h2, d, s1, s2, ⟨⟨A, c, B, e⟩, o, q⟩, t⟩ := h
  exact ⟨A, c, B, e, o, sat.head (A := fun h => h = h1) (N := setZ b most s (A, c, B, e)) (fun _ e => e ▸ q) ⟨h1, h2, d, s1, s2, rfl, t⟩⟩
theorem seg_open {t : Nat} {most : Int} {s : St} {M : List HP} {hm : Hm} (h : sat (segH t most s :: M) hm) : ∃ x X A c l, TOk x X A c l s.k s.R ∧ sat (tgL t x X A c l most s.b M) hm := by
  obtain ⟨h1, h2, d, s1, s2, ⟨⟨x, X, A, c, l⟩, o, q⟩, t⟩ := h
  exact ⟨x, X, A, c, l, o, sat.head (A := fun h => h = h1) (N := segZ _ most s (x, X, A, c, l)) (fun _ e => e ▸ q) ⟨h1, h2, d, s1, s2, rfl, t⟩⟩
theorem gdoes_open (t b : Nat) (most : Int) (s : St) (L : List HP) (a : Ac) (hk : s.k.length ≤ 99) (hR : s.R.length ≤ 1000) (hb : s.b ≤ 10000) (ha : a.at_ ≤ 9223372036854775807) :
    Ctr Tryz.prog 32 #[.pointer (some ⟨t, 0, none⟩), .pointer (some ⟨b, 0, none⟩), .agg #[.int .i64 a.kind, .int .i64 a.at_, .int .i64 a.p.id, .int .i64 a.p.x, .int .i64 a.p.y]] (segH t most s :: setQ b most s :: L) fun v L' => ∃ A c B d, v = .bool true ∧ QOk A c (s.act most a).k B d (s.act most a).R ∧ L' = segH t most (s.act most a) :: blk b 33 (qsC A (s.act most a).k.length c most B (s.act most a).R.length d (s.act most a).b) :: own 51 3 A (s.act most a).k.length c (flat (s.act most a).k) :: own 3 1 B (s.act most a).R.length d (flat (s.act most a).R) :: L :=
  (gdoes_ctr t b most s L a hk hR hb ha).post' fun v L' hm ⟨e1, e2⟩ q => by
    subst e2
    obtain ⟨A, c, B, d, o, q2⟩ := qset_open q.swap
    refine ⟨_, ⟨A, c, B, d, e1, o, rfl⟩, ?_⟩
    unfold qsL at q2
    exact q2.perm ((List.perm_middle (l₁ := [blk b 33 (qsC A (s.act most a).k.length c most B (s.act most a).R.length d (s.act most a).b), own 51 3 A (s.act most a).k.length c (flat (s.act most a).k), own 3 1 B (s.act most a).R.length d (flat (s.act most a).R)])).trans (.refl _))
theorem bgnK_length (k : List Pt) (lo hi : Int) : (bgnK k lo hi).length ≤ k.length := by unfold bgnK; rw [srt_length, idsOf_length]; exact List.length_filter_le _ _
theorem stabK_length (k : List Pt) (v : Int) : (stabK k v).length ≤ k.length := by unfold stabK; rw [srt_length, idsOf_length]; exact List.length_filter_le _ _
theorem overK_length (k : List Pt) (lo hi : Int) : (overK k lo hi).length ≤ k.length := by unfold overK; rw [srt_length, idsOf_length]; exact List.length_filter_le _ _
theorem risingQ2_ctr (O : Option Addr) (e : Nat) (q1 q2 : List Int) (L : List HP) (h : 0 < 0 + q1.length + q2.length → ∃ b, O = some ⟨b, 0, none⟩) (hn : q1.length + q2.length ≤ 10000) : Ctr Tryz.prog 19 #[.slice O (0 + q1.length + q2.length) e] (own 3 1 O (0 + q1.length + q2.length) e ([] ++ flat q1 ++ flat q2) :: L) fun v L' => ∃ A' c' N, v = .slice A' (srt (q1 ++ q2)).length c' ∧ (srt (q1 ++ q2)).length ≤ c' ∧ c' ≤ maxLen ∧ L' = N ++ L ∧ Rd (N ++ []) A' (srt (q1 ++ q2)).length (srt (q1 ++ q2)) := by
  have e1 : (q1 ++ q2).length = 0 + q1.length + q2.length := by rw [List.length_append]; omega
  have e2 : flat (q1 ++ q2) = [] ++ flat q1 ++ flat q2 := by rw [flat_append]; rfl
  have := risingQ_ctr O e (q1 ++ q2) L (by rw [e1]; exact h) (by rw [e1]; omega)
  rw [e1, e2] at this
  exact this
theorem rdN {N : List HP} {A : Option Addr} {n : Nat} {l : List Int} (h : Rd (N ++ []) A n l) (L : List HP) : Rd (N ++ L) A n l := by
  rw [List.append_nil] at h
  exact Rd.mono (fun h s => en_app (fun _ s => s) h (s.perm List.perm_append_comm)) h
theorem QIn.app {N L : List HP} {b : Nat} {A : Option Addr} {c : Nat} {k : List Pt} {most : Int} {B : Option Addr} {d : Nat} {R : List Int} {built : Nat} (h : QIn L b A c k most B d R built) : QIn (N ++ L) b A c k most B d R built := by
  induction N with
  | nil => exact h
  | cons X N ih => exact ih.skip
theorem stab_over (k : List Pt) (v : Int) : stabK k v = overK k v v := by
  unfold stabK overK
  congr 2
  refine List.filter_congr fun p _ => ?_
  simp
end Go.Proofs.YtmgkmammkmlakaaGreat
