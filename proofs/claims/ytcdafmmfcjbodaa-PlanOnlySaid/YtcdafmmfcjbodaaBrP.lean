/- Points that came in. -/
import Derived.Test.YtcdafmmfcjbodaaBr
import Derived.Test.YtcdafmmfcjbodaaCm
namespace Go.Proofs.Ytcdafmmfcjbodaa
theorem pts_of : ∀ (n : Nat) (ns : List Int), ns.length = n * 3 → ∃ l : List Pt, flat l = ints ns
  | 0, ns, h => ⟨[], by
    have : ns = [] := List.eq_nil_of_length_eq_zero (by simpa using h)
    subst this; rfl⟩
  | n + 1, a :: b :: c :: ns, h => by
    obtain ⟨l, hl⟩ := pts_of n ns (by simp at h; omega)
    exact ⟨⟨a, b, c⟩ :: l, by rw [flat_cons, hl]; rfl⟩
  | n + 1, [], h => by simp at h
  | n + 1, [_], h => by simp at h; omega
  | n + 1, [_, _], h => by simp at h; omega
theorem rd_pts {w : World} {A : Option Addr} {n : Nat} {ns : List Int} (h : Reads w 3 A n (ints ns)) : ∃ l : List Pt, Rd [old w.hm] A n l := by
  obtain ⟨l, hl⟩ := pts_of n ns (by simpa [ints] using h.1)
  refine ⟨l, ?_⟩
  unfold Rd
  rw [hl]
  exact rc_of_reads (by decide) h
end Go.Proofs.Ytcdafmmfcjbodaa
