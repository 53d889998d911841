/- Laws of Go's library, laid at this program by the kit's tools. No condition. -/
import Derived.Shelf.Sort.Plain
import Derived.Test.YtmlicajgbgjphaaProg
namespace Go.Proofs
open Go.Shelf
def Try.lays189_ren : Go.Shelf.Ren := ⟨fun | 189 => 145 | 125 => 213 | 257 => 212 | 128 => 254 | 129 => 255 | 294 => 245 | 295 => 246 | 296 => 247 | 297 => 248 | 298 => 249 | 299 => 250 | 216 => 251 | 300 => 252 | 301 => 253 | 328 => 260 | 329 => 261 | 330 => 262 | 331 => 263 | 332 => 264 | 215 => 257 | 343 => 268 | n => n, fun | 28 => 31 | 3 => 3 | 46 => 188 | 0 => 0 | 51 => 214 | 53 => 118 | 4 => 4 | 183 => 209 | 182 => 208 | 131 => 55 | 5 => 5 | 9 => 9 | 218 => 217 | 222 => 221 | 228 => 226 | 229 => 227 | n => n, fun | n => n⟩
theorem Try.lays189 : Go.Proofs.Lays.n189 Try.prog Try.lays189_ren := {
  mixed := by kernel_rfl
  f125 := Try.func213.trans (congrArg some (by kernel_rfl))
  f128 := Try.func254.trans (congrArg some (by kernel_rfl))
  f129 := Try.func255.trans (congrArg some (by kernel_rfl))
  f189 := Try.func145.trans (congrArg some (by kernel_rfl))
  f215 := Try.func257.trans (congrArg some (by kernel_rfl))
  f216 := Try.func251.trans (congrArg some (by kernel_rfl))
  f257 := Try.func212.trans (congrArg some (by kernel_rfl))
  f294 := Try.func245.trans (congrArg some (by kernel_rfl))
  f295 := Try.func246.trans (congrArg some (by kernel_rfl))
  f296 := Try.func247.trans (congrArg some (by kernel_rfl))
  f297 := Try.func248.trans (congrArg some (by kernel_rfl))
  f298 := Try.func249.trans (congrArg some (by kernel_rfl))
  f299 := Try.func250.trans (congrArg some (by kernel_rfl))
  f300 := Try.func252.trans (congrArg some (by kernel_rfl))
  f301 := Try.func253.trans (congrArg some (by kernel_rfl))
  f328 := Try.func260.trans (congrArg some (by kernel_rfl))
  f329 := Try.func261.trans (congrArg some (by kernel_rfl))
  f330 := Try.func262.trans (congrArg some (by kernel_rfl))
  f331 := Try.func263.trans (congrArg some (by kernel_rfl))
  f332 := Try.func264.trans (congrArg some (by kernel_rfl))
  f343 := Try.func268.trans (congrArg some (by kernel_rfl))
  t0 := Try.underlying0
  a0 := Try.isAgg0
  z0 := Try.sizeOf0
  v0 := Try.zeroValue0
  t3 := Try.underlying3
  a3 := Try.isAgg3
  z3 := Try.sizeOf3
  v3 := Try.zeroValue3
  t4 := Try.underlying4
  a4 := Try.isAgg4
  z4 := Try.sizeOf4
  v4 := Try.zeroValue4
  t5 := Try.underlying5
  a5 := Try.isAgg5
  z5 := Try.sizeOf5
  v5 := Try.zeroValue5
  t9 := Try.underlying9
  a9 := Try.isAgg9
  z9 := Try.sizeOf9
  v9 := Try.zeroValue9
  t28 := Try.underlying31
  a28 := Try.isAgg31
  z28 := Try.sizeOf31
  v28 := Try.zeroValue31
  t46 := Try.underlying188
  a46 := Try.isAgg188
  z46 := Try.sizeOf188
  v46 := Try.zeroValue188
  t51 := Try.underlying214
  a51 := Try.isAgg214
  z51 := Try.sizeOf214
  v51 := Try.zeroValue214
  t53 := Try.underlying118
  a53 := Try.isAgg118
  z53 := Try.sizeOf118
  v53 := Try.zeroValue118
  t131 := Try.underlying55
  a131 := Try.isAgg55
  z131 := Try.sizeOf55
  v131 := Try.zeroValue55
  t182 := Try.underlying208
  a182 := Try.isAgg208
  z182 := Try.sizeOf208
  v182 := Try.zeroValue208
  t183 := Try.underlying209
  a183 := Try.isAgg209
  z183 := Try.sizeOf209
  v183 := Try.zeroValue209
  t218 := Try.underlying217
  a218 := Try.isAgg217
  z218 := Try.sizeOf217
  v218 := Try.zeroValue217
  t222 := Try.underlying221
  a222 := Try.isAgg221
  z222 := Try.sizeOf221
  v222 := Try.zeroValue221
  t228 := Try.underlying226
  a228 := Try.isAgg226
  z228 := Try.sizeOf226
  v228 := Try.zeroValue226
  t229 := Try.underlying227
  a229 := Try.isAgg227
  z229 := Try.sizeOf227
  v229 := Try.zeroValue227 }
open Go.Sort Go.RowKit in
theorem Try.slices_Sort_int (blk off cap : Nat) (zs : List Int) (w : World) (hH : Holds (Value.int .i64) w blk off zs.toArray) (hblk : blk < w.heap.size) (hsz : zs.length < 4611686018427387904) :
    Calls Try.prog 145 #[.slice (some ⟨blk, off, none⟩) zs.length cap] w fun e w' =>
      e = .returned (.tuple #[]) ∧ ∃ n os, w' = grow (putRow (Value.int .i64) (Sort.ahead w n) blk off (zs.mergeSort fun x y => decide (x ≤ y)).toArray) os := Any.slices_Sort_int Try.lays189 blk off cap zs w hH hblk hsz
end Go.Proofs
