/- The law CascadeLeads, joined. -/
import Derived.Test.YtcdafmmfcjbodaaCas9
import Derived.Test.YtcdafmmfcjbodaaBrP
namespace Go.Proofs.Ytcdafmmfcjbodaa
open Go.RowKit
theorem cascadeLeads_walk (A B : Option Addr) (n m c d : Nat) (ns ms : List Int) (y : Int) (w : World) (hc : n ≤ c) (hc2 : c ≤ maxLen) (hd : m ≤ d) (hd2 : d ≤ maxLen) (h1 : Reads w 3 A n (ints ns)) (h2 : Reads w 3 B m (ints ms)) :
    Calls Try.prog 3 #[.slice A n c, .slice B m d, .int .i64 y] w fun e w' => e = .returned (.bool true) ∧ Below w.heap.size w w' := by
  obtain ⟨l, hl⟩ := rd_pts h1
  obtain ⟨q, hq⟩ := rd_pts h2
  exact law_of_ctr (cascadeLeads_ctr A B n m c d l q y _ hl hq hc hc2 hd hd2)
end Go.Proofs.Ytcdafmmfcjbodaa
