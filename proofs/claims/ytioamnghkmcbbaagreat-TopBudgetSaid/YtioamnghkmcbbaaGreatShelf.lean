/-
  DERIVED: THE SHELF's CONTRACTS AT THIS DUMP, IN PLAIN WORDS (tools/lay-plain.mjs out of 'TryzShelf.lean', which tools/lay-shelf.mjs wrote): THE SAME DECLARATIONS UNDER THE SAME NAMES: 'import', 'namespace', 'open', 'def', 'theorem' AND NOTHING ELSE: no command of the shelf's: FOR A HAND-IN. Each laying: the table of numbers ('.._ren') and one theorem, a field a fact of the dump's own or the kernel's comparison; each contract: ONE APPLICATION.
-/
import Derived.Shelf.Sort.Plain
import Derived.Shelf.Slices.In.SortNone
import Derived.Test.YtioamnghkmcbbaaGreatProg
namespace Go.Proofs
open Go.Shelf
def Tryz.lays189_ren : Go.Shelf.Ren := ⟨fun | 189 => 254 | 125 => 339 | 257 => 338 | 128 => 428 | 129 => 429 | 294 => 420 | 295 => 421 | 296 => 422 | 297 => 423 | 298 => 424 | 299 => 425 | 216 => 101 | 300 => 426 | 301 => 427 | 328 => 494 | 329 => 495 | 330 => 496 | 331 => 497 | 332 => 498 | 215 => 151 | 343 => 561 | n => n, fun | 28 => 59 | 3 => 3 | 46 => 426 | 0 => 0 | 51 => 485 | 53 => 487 | 4 => 4 | 183 => 479 | 182 => 478 | 131 => 54 | 5 => 5 | 9 => 9 | 218 => 540 | 222 => 230 | 228 => 598 | 229 => 520 | n => n, fun | n => n⟩
theorem Tryz.lays189 : Go.Proofs.Lays.n189 Tryz.prog Tryz.lays189_ren := {
  mixed := by kernel_rfl
  f125 := Tryz.func339.trans (congrArg some (by kernel_rfl))
  f128 := Tryz.func428.trans (congrArg some (by kernel_rfl))
  f129 := Tryz.func429.trans (congrArg some (by kernel_rfl))
  f189 := Tryz.func254.trans (congrArg some (by kernel_rfl))
  f215 := Tryz.func151.trans (congrArg some (by kernel_rfl))
  f216 := Tryz.func101.trans (congrArg some (by kernel_rfl))
  f257 := Tryz.func338.trans (congrArg some (by kernel_rfl))
  f294 := Tryz.func420.trans (congrArg some (by kernel_rfl))
  f295 := Tryz.func421.trans (congrArg some (by kernel_rfl))
  f296 := Tryz.func422.trans (congrArg some (by kernel_rfl))
  f297 := Tryz.func423.trans (congrArg some (by kernel_rfl))
  f298 := Tryz.func424.trans (congrArg some (by kernel_rfl))
  f299 := Tryz.func425.trans (congrArg some (by kernel_rfl))
  f300 := Tryz.func426.trans (congrArg some (by kernel_rfl))
  f301 := Tryz.func427.trans (congrArg some (by kernel_rfl))
  f328 := Tryz.func494.trans (congrArg some (by kernel_rfl))
  f329 := Tryz.func495.trans (congrArg some (by kernel_rfl))
  f330 := Tryz.func496.trans (congrArg some (by kernel_rfl))
  f331 := Tryz.func497.trans (congrArg some (by kernel_rfl))
  f332 := Tryz.func498.trans (congrArg some (by kernel_rfl))
  f343 := Tryz.func561.trans (congrArg some (by kernel_rfl))
  t0 := Tryz.underlying0
  a0 := Tryz.isAgg0
  z0 := Tryz.sizeOf0
  v0 := Tryz.zeroValue0
  t3 := Tryz.underlying3
  a3 := Tryz.isAgg3
  z3 := Tryz.sizeOf3
  v3 := Tryz.zeroValue3
  t4 := Tryz.underlying4
  a4 := Tryz.isAgg4
  z4 := Tryz.sizeOf4
  v4 := Tryz.zeroValue4
  t5 := Tryz.underlying5
  a5 := Tryz.isAgg5
  z5 := Tryz.sizeOf5
  v5 := Tryz.zeroValue5
  t9 := Tryz.underlying9
  a9 := Tryz.isAgg9
  z9 := Tryz.sizeOf9
  v9 := Tryz.zeroValue9
  t28 := Tryz.underlying59
  a28 := Tryz.isAgg59
  z28 := Tryz.sizeOf59
  v28 := Tryz.zeroValue59
  t46 := Tryz.underlying426
  a46 := Tryz.isAgg426
  z46 := Tryz.sizeOf426
  v46 := Tryz.zeroValue426
  t51 := Tryz.underlying485
  a51 := Tryz.isAgg485
  z51 := Tryz.sizeOf485
  v51 := Tryz.zeroValue485
  t53 := Tryz.underlying487
  a53 := Tryz.isAgg487
  z53 := Tryz.sizeOf487
  v53 := Tryz.zeroValue487
  t131 := Tryz.underlying54
  a131 := Tryz.isAgg54
  z131 := Tryz.sizeOf54
  v131 := Tryz.zeroValue54
  t182 := Tryz.underlying478
  a182 := Tryz.isAgg478
  z182 := Tryz.sizeOf478
  v182 := Tryz.zeroValue478
  t183 := Tryz.underlying479
  a183 := Tryz.isAgg479
  z183 := Tryz.sizeOf479
  v183 := Tryz.zeroValue479
  t218 := Tryz.underlying540
  a218 := Tryz.isAgg540
  z218 := Tryz.sizeOf540
  v218 := Tryz.zeroValue540
  t222 := Tryz.underlying230
  a222 := Tryz.isAgg230
  z222 := Tryz.sizeOf230
  v222 := Tryz.zeroValue230
  t228 := Tryz.underlying598
  a228 := Tryz.isAgg598
  z228 := Tryz.sizeOf598
  v228 := Tryz.zeroValue598
  t229 := Tryz.underlying520
  a229 := Tryz.isAgg520
  z229 := Tryz.sizeOf520
  v229 := Tryz.zeroValue520 }
open Go.Sort Go.RowKit in
theorem Tryz.slices_Sort_int (blk off cap : Nat) (zs : List Int) (w : World) (hH : Holds (Value.int .i64) w blk off zs.toArray) (hblk : blk < w.heap.size) (hsz : zs.length < 4611686018427387904) :
    Calls Tryz.prog 254 #[.slice (some ⟨blk, off, none⟩) zs.length cap] w fun e w' =>
      e = .returned (.tuple #[]) ∧ ∃ n os, w' = grow (putRow (Value.int .i64) (Sort.ahead w n) blk off (zs.mergeSort fun x y => decide (x ≤ y)).toArray) os := Any.slices_Sort_int Tryz.lays189 blk off cap zs w hH hblk hsz
open Go.RowKit Go.Sort in
/-- .. and plain. (LAID: no walk: one application.) -/
theorem Tryz.slices_Sort_int_none (p : Option Addr) (cap : Nat) (w : World) :
    Calls Tryz.prog 254 #[.slice p 0 cap] w fun e w' => e = .returned (.tuple #[]) ∧ w' = w := Any.slices_Sort_int_none Tryz.lays189 p cap w
end Go.Proofs

