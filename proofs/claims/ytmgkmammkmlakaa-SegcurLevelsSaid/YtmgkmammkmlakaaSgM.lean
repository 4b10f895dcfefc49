/- What is done, the reference's set laid open. -/
import Derived.Test.YtmgkmammkmlakaaSgL
import Derived.Test.YtmgkmammkmlakaaGBrA
namespace Go.Proofs.Ytmgkmammkmlakaa
set_option linter.unusedVariables false
set_option linter.unusedSimpArgs false

theorem seg_open {t : Nat} {most : Int} {s : St} {M : List HP} {hm : Hm} (h : sat (segH t most s :: M) hm) : ∃ x X A c l, TOk x X A c l s.k s.R ∧ sat (tgL t x X A c l most s.b M) hm := by
  obtain ⟨h1, h2, d, s1, s2, ⟨⟨x, X, A, c, l⟩, o, q⟩, t⟩ := h
  exact ⟨x, X, A, c, l, o, sat.head (A := fun h => h = h1) (N := segZ _ most s (x, X, A, c, l)) (fun _ e => e ▸ q) ⟨h1, h2, d, s1, s2, rfl, t⟩⟩
theorem bgnK_length (k : List Pt) (lo hi : Int) : (bgnK k lo hi).length ≤ k.length := by unfold bgnK; rw [srt_length, idsOf_length]; exact List.length_filter_le _ _
theorem stabK_length (k : List Pt) (v : Int) : (stabK k v).length ≤ k.length := by unfold stabK; rw [srt_length, idsOf_length]; exact List.length_filter_le _ _
theorem overK_length (k : List Pt) (lo hi : Int) : (overK k lo hi).length ≤ k.length := by unfold overK; rw [srt_length, idsOf_length]; exact List.length_filter_le _ _
theorem rdN {N : List HP} {A : Option Addr} {n : Nat} {l : List Int} (h : Rd (N ++ []) A n l) (L : List HP) : Rd (N ++ L) A n l := by
  rw [List.append_nil] at h
  exact Rd.mono (fun h s => en_app (fun _ s => s) h (s.perm List.perm_append_comm)) h
theorem QIn.app {N L : List HP} {b : Nat} {A : Option Addr} {c : Nat} {k : List Pt} {most : Int} {B : Option Addr} {d : Nat} {R : List Int} {built : Nat} (h : QIn L b A c k most B d R built) : QIn (N ++ L) b A c k most B d R built := by
  induction N with
  | nil => exact h
  | cons X N ih => exact ih.skip
theorem stab_over (k : List Pt) (v : Int) : stabK k v = overK k v v := by
  unfold stabK overK
  congr 2
  refine List.filter_congr fun p _ => ?_
  simp
end Go.Proofs.Ytmgkmammkmlakaa
