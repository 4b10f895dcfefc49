/- The law PstBack: what its row asks. -/
import Derived.Test.YtalcanejhniepaaBack
import Derived.Test.YtalcanejhniepaaBrA
namespace Go.Proofs.Ytalcanejhniepaa
open Go.RowKit
theorem pstBack_walk (A : Option Addr) (n c : Nat) (ns : List Int) (p0 p1 p2 w0 w1 w2 : Int) (w : World) (hc : n ≤ c) (hc2 : c ≤ maxLen) (hb : Ints ns) (h1 : Reads w 5 A n (ints ns)) :
    Calls Try.prog 4 #[.slice A n c, .agg #[.int .i64 p0, .int .i64 p1, .int .i64 p2], .agg #[.int .i64 w0, .int .i64 w1, .int .i64 w2]] w fun e w' => e = .returned (.bool true) ∧ Below w.heap.size w w' := by
  obtain ⟨l, hl, hk⟩ := rd_acts h1 hb
  exact law_of_ctr (PstBack_ctr A n c l ⟨p0, p1, p2⟩ ⟨w0, w1, w2⟩ _ hl (by unfold maxLen at hc2; omega) hk)
end Go.Proofs.Ytalcanejhniepaa
