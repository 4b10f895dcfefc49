/- The shelf's contracts at this program. -/
import Derived.Shelf.Sort.Plain
import Derived.Shelf.Slices.In.SortNone
import Derived.Test.YteinodmjohkmmaaGreatProg
namespace Go.Proofs
open Go.Shelf
def Tryz.lays189_ren : Ren := ⟨fun | 189 => 264 | 125 => 106 | 257 => 345 | 128 => 156 | 129 => 157 | 294 => 379 | 295 => 380 | 296 => 381 | 297 => 382 | 298 => 383 | 299 => 384 | 216 => 287 | 300 => 385 | 301 => 386 | 328 => 428 | 329 => 223 | 330 => 224 | 331 => 429 | 332 => 430 | 215 => 71 | 343 => 470 | n => n, fun | 28 => 156 | 3 => 3 | 46 => 225 | 0 => 0 | 51 => 281 | 53 => 283 | 4 => 4 | 183 => 275 | 182 => 274 | 131 => 220 | 5 => 5 | 9 => 9 | 218 => 342 | 222 => 318 | 228 => 391 | 229 => 333 | n => n, id⟩
theorem Tryz.lays189 : Lays.n189 Tryz.prog Tryz.lays189_ren := by
  constructor <;> first | (intro w; kernel_rfl) | kernel_rfl
open Go.Sort Go.RowKit in
theorem Tryz.slices_Sort_int (blk off cap : Nat) (zs : List Int) (w : World) (hH : Holds (Value.int .i64) w blk off zs.toArray) (hblk : blk < w.heap.size) (hsz : zs.length < 4611686018427387904) :
    Calls Tryz.prog 264 #[.slice (some ⟨blk, off, none⟩) zs.length cap] w fun e w' =>
      e = .returned (.tuple #[]) ∧ ∃ n os, w' = grow (putRow (Value.int .i64) (Sort.ahead w n) blk off (zs.mergeSort fun x y => decide (x ≤ y)).toArray) os := Any.slices_Sort_int Tryz.lays189 blk off cap zs w hH hblk hsz
open Go.RowKit Go.Sort in
theorem Tryz.slices_Sort_int_none (p : Option Addr) (cap : Nat) (w : World) :
    Calls Tryz.prog 264 #[.slice p 0 cap] w fun e w' => e = .returned (.tuple #[]) ∧ w' = w := Any.slices_Sort_int_none Tryz.lays189 p cap w
end Go.Proofs

