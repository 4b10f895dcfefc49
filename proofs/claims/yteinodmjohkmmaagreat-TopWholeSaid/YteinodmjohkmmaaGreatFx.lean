/- What the row asks of the program, each reckoned by itself. -/
import Derived.Test.YteinodmjohkmmaaGreatMZ2
import Derived.Test.YteinodmjohkmmaaGreatRows
namespace Go.Proofs.YteinodmjohkmmaaGreat
set_option maxRecDepth 100000
theorem sizeT : Tryz.prog.types.size = 720 := by decide +kernel
theorem rowsF : (List.range 720).all (rowFine Tryz.prog) = true := by decide +kernel
theorem laidF : laidOutB Tryz.prog = true := by
  unfold laidOutB
  rw [sizeT, rowsF]
  decide +kernel
theorem mapsF : mapsRowed Tryz.prog = true := by
  unfold mapsRowed
  rw [sizeT]
  decide +kernel
theorem stopF : Tryz.prog.stopsHeard = true := by decide +kernel
theorem clF : aV.O7 Tryz.prog 1500 3 Rows.topWholeRow.inPlace = true := by decide +kernel
theorem fuF : Nat.ble 1500 (1 + (Tryz.prog.funcs.toList.map fun g => (Tryz.prog.leadsTo g).length + 1).sum) = true := by decide +kernel
theorem factsF : joinedFacts Tryz.prog 3 Tryz.f3 Rows.topWholeSpec Rows.topWholeRow = true := by
  obtain ⟨h1, h2, h3, h4⟩ := aV.ajB clF fuF
  unfold joinedFacts
  rw [laidF, mapsF, stopF, h1, h2, h3, h4]
  decide +kernel
end Go.Proofs.YteinodmjohkmmaaGreat
