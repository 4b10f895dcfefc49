/- The shelf's contracts at this program. -/
import Derived.Shelf.SlSortCmp.WholeK
import Derived.Shelf.Small.Wraps
import Derived.Test.YteinodmjohkmmaaGreatProg
namespace Go.Proofs
open Go.Shelf
theorem be_ {P : Program} {f : FuncId} {b : Func} (h1 : ((P.funcs[f]?.map (·.name)).getD "" == "runtime.NumGoroutine") = false := by kernel_rfl) (h2 : P.funcs[f]? = some { b with name := (P.funcs[f]?.map (·.name)).getD "" } := by kernel_rfl) : Bears P f b := ⟨_, h1, h2⟩
def Tryz.sortP_ren : Ren := ⟨fun | 6 => 69 | 15 => 106 | 14 => 105 | 28 => 156 | 29 => 157 | 20 => 148 | 21 => 149 | 22 => 150 | 23 => 151 | 24 => 152 | 25 => 153 | 26 => 154 | 27 => 155 | 46 => 222 | 47 => 223 | 48 => 224 | 49 => 225 | 50 => 226 | 57 => 300 | n => n, fun | 22 => 37 | 24 => 42 | 25 => 125 | 3 => 3 | 39 => 225 | 0 => 0 | 53 => 281 | 55 => 283 | 4 => 4 | 46 => 275 | 45 => 274 | 50 => 220 | 5 => 5 | 9 => 9 | 66 => 342 | 70 => 318 | 76 => 391 | 77 => 333 | n => n, id⟩
theorem Tryz.sortP : SlLaysF0.n6 Tryz.prog Tryz.sortP_ren := by
  constructor <;> first | exact be_ | (intro w; kernel_rfl) | kernel_rfl
def Tryz.sortS_ren : Ren := ⟨fun | 6 => 73 | 14 => 108 | 20 => 158 | 21 => 159 | 22 => 160 | 23 => 161 | 24 => 162 | 25 => 163 | 26 => 164 | 27 => 165 | 46 => 227 | 49 => 228 | 50 => 229 | 57 => 301 | n => Tryz.sortP_ren.f n, fun | 22 => 38 | 24 => 44 | 25 => 130 | n => Tryz.sortP_ren.t n, id⟩
theorem Tryz.sortS : SlLaysF0.n6 Tryz.prog Tryz.sortS_ren := by
  constructor <;> first | exact be_ | (intro w; kernel_rfl) | kernel_rfl
def Tryz.lays122_ren : Ren := ⟨fun | 122 => 43 | 215 => 71 | n => n, fun | 3 => 3 | 4 => 4 | n => n, id⟩
theorem Tryz.lays122 : Lays.n122 Tryz.prog Tryz.lays122_ren := by
  constructor <;> first | exact be_ | (intro w; kernel_rfl) | kernel_rfl
theorem Tryz.cmp_Compare_int (x y : Int) (w : World) :
    Calls Tryz.prog 43 #[.int .i64 x, .int .i64 y] w fun e w' => e = .returned (.int .i64 (Lib.compareInt x y)) ∧ w' = w := Any.cmp_Compare_int Tryz.lays122 x y w
end Go.Proofs
