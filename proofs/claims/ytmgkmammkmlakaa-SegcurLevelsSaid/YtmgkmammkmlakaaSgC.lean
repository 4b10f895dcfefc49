/- The references' sets of intervals and numbers: Insert, Delete. -/
import Derived.Test.YtmgkmammkmlakaaSgA
namespace Go.Proofs.Ytmgkmammkmlakaa
set_option linter.unusedVariables false
set_option linter.unusedSimpArgs false
set_option maxRecDepth 100000

@[reducible] def qsC (A : Option Addr) (n c : Nat) (most : Int) (B : Option Addr) (m d built : Nat) : List Value := [.slice A n c, .int .i64 most, .slice B m d, .int .i64 (built : Nat)]
structure QOk (A : Option Addr) (c : Nat) (k : List Pt) (B : Option Addr) (d : Nat) (R : List Int) : Prop where
  a : AdOk A c k
  r : AdI B d R
theorem hasR_and (R : List Int) (p : Pt) : bothIn R p = (hasR R p.x && hasR R p.y) := rfl
structure QIn (L : List HP) (b : Nat) (A : Option Addr) (c : Nat) (k : List Pt) (most : Int) (B : Option Addr) (d : Nat) (R : List Int) (built : Nat) : Prop where
  q : LdN L b 0 4 (qsC A k.length c most B R.length d built)
  k : Rd L A k.length k
  r : Rd L B R.length R
theorem QIn.skip {Y : HP} {L : List HP} {b : Nat} {A : Option Addr} {c : Nat} {k : List Pt} {most : Int} {B : Option Addr} {d : Nat} {R : List Int} {built : Nat} (h : QIn L b A c k most B d R built) : QIn (Y :: L) b A c k most B d R built := ⟨h.q.skip, h.k.skip, h.r.skip⟩
/-- Something that was made, of which no more is told than how it reads. -/
def MadeQ {α : Type} [E : Enc α] (l : List α) (L : List HP) (v : Value) (L' : List HP) : Prop := ∃ (Y : HP) (A : Option Addr) (c : Nat), v = .slice A l.length c ∧ l.length ≤ c ∧ c ≤ maxLen ∧ (∀ L, Rd (Y :: L) A l.length l) ∧ L' = Y :: L
theorem Ctr.q {P : Program} {f : FuncId} {args : Array Value} {L : List HP} {α : Type} [E : Enc α] {l : List α} (h : Ctr P f args L fun v L' => ∃ A' c' N, v = .slice A' l.length c' ∧ l.length ≤ c' ∧ c' ≤ maxLen ∧ L' = N ++ L ∧ Rd (N ++ []) A' l.length l) : Ctr P f args L fun v L' => MadeQ l L v L' :=
  h.post' fun v L' hm ⟨A, c, X, e1, e2, e3, e4, e5⟩ s => ⟨_, ⟨fun h => sat X h, A, c, e1, e2, e3, fun L => Rc.of' (fun _ h => by rw [List.append_nil]; exact h) e5, rfl⟩, sat.join (e4 ▸ s)⟩
theorem idsF_succ (f : Pt → Bool) (l : List Pt) (k : Nat) (h : k < l.length) : idsOf ((l.take (k + 1)).filter f) = idsOf ((l.take k).filter f) ++ if f l[k] = true then [l[k].id] else [] := by
  unfold idsOf
  rw [List.take_succ_eq_append_getElem h, List.filter_append, List.map_append]
  split <;> simp_all
end Go.Proofs.Ytmgkmammkmlakaa
