/- buildSlice with any number of parts. -/
import Derived.Test.YtmgkmammkmlakaaApp
namespace Go.Proofs.Ytmgkmammkmlakaa
set_option linter.unusedVariables false
set_option linter.unusedSimpArgs false

section
variable {P : Program} {g : Glob} {L : List HP} {σ : Env} {d : Option Nat} {ty T : TypeId} {pos : String} {aft : Array Edge} {gd : Option (Nat × Bool)}
/-- n times the same cells. -/
def repL (n : Nat) (zs : List Value) : List Value := (List.range (n * zs.length)).map fun j => zs.getD (j % zs.length) (.bool false)
theorem eff_buildSliceN {e : TypeId} {sz by_ n : Nat} {zs cs : List Value} {ps : List (Nat × Operand)} {pv : List (Nat × Value)} [H : SliceT P T (e, sz, by_)] [HZ : ZeroT P e zs] (hz : (Nat.beq zs.length sz && Nat.ble 1 sz && Nat.ble 1 n && Nat.ble (n * sz) 1000) = true) (hp : evParts σ ps = some pv)
    (hf : fillL (fun i => some (i * sz, sz)) (repL n zs) pv = some cs) :
    Eff P g L σ ⟨d, .buildSlice T n ps.toArray, ty, pos, aft, gd⟩ fun r L' => ∃ b, r = .slice (some ⟨b, 0, none⟩) n n ∧ L' = blk b e cs :: L := fun a w hs hw K Q hK => by
  simp only [Bool.and_eq_true] at hz
  have z1 := Nat.eq_of_beq_eq_true hz.1.1.1
  have z2 := Nat.le_of_ble_eq_true hz.1.1.2
  have z3 := Nat.le_of_ble_eq_true hz.1.2
  have z4 := Nat.le_of_ble_eq_true hz.2
  have z5 : 0 < n * sz := Nat.mul_pos z3 z2
  obtain ⟨hu, ie, hie, hs2, _⟩ := H.spec
  have e4 : (sizeOf e).run P w = .ok sz w := by simp [sizeOf, typeInfo, hie, hs2]
  unfold Oper.wp
  have e1 : (ps.toArray.map fun (i, x) => (i, a.eval x)) = pv.toArray := by rw [List.map_toArray]; congr 1; exact evParts_map hs hp
  obtain ⟨v, e5, e6⟩ := HZ.run w
  have e7 : (Array.range (n * sz)).map (fun j => zs.toArray[j % zs.toArray.size]!) = (repL n zs).toArray := by
    apply Array.ext
    · simp [repL, z1]
    · intro i hi _
      simp at hi
      have : i % sz < zs.length := by rw [z1]; exact Nat.mod_lt _ z2
      simp [repL, z1, List.getElem?_eq_getElem this, List.getD_eq_getElem?_getD]
  simp only [execOp, Instr.buildSlice, Sem.run_bind, run_underlying hu, Result.andThen_ok, e4, e1]
  rw [if_neg (by omega)]
  simp only [Sem.run_bind, Sem.run_pure, Result.andThen_ok]
  rw [if_neg (by omega)]
  simp only [Sem.run_bind, e5, Result.andThen_ok, Sem.run_pure, e6, e7, fillL_eq hf, newRow_run]
  exact hK _ _ _ ⟨_, rfl, rfl⟩ (hw.alloc e _)
end

end Go.Proofs.Ytmgkmammkmlakaa
