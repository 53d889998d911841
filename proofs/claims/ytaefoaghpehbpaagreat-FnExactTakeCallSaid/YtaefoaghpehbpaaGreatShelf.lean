/- Laws of Go's library, laid at this program by the kit's tools. No condition. -/
import Derived.Shelf.Sort.Plain
import Derived.Test.YtaefoaghpehbpaaGreatProg
namespace Go.Proofs
open Go.Shelf
def Tryz.lays189_ren : Go.Shelf.Ren := ⟨fun | 189 => 160 | 125 => 214 | 257 => 213 | 128 => 251 | 129 => 252 | 294 => 242 | 295 => 243 | 296 => 244 | 297 => 245 | 298 => 246 | 299 => 247 | 216 => 248 | 300 => 249 | 301 => 250 | 328 => 260 | 329 => 261 | 330 => 262 | 331 => 263 | 332 => 264 | 215 => 231 | 343 => 270 | n => n, fun | 28 => 75 | 3 => 3 | 46 => 231 | 0 => 0 | 51 => 255 | 53 => 146 | 4 => 4 | 183 => 250 | 182 => 249 | 131 => 232 | 5 => 5 | 9 => 9 | 218 => 265 | 222 => 269 | 228 => 275 | 229 => 276 | n => n, fun | n => n⟩
theorem Tryz.lays189 : Go.Proofs.Lays.n189 Tryz.prog Tryz.lays189_ren := {
  mixed := by kernel_rfl
  f125 := Tryz.func214.trans (congrArg some (by kernel_rfl))
  f128 := Tryz.func251.trans (congrArg some (by kernel_rfl))
  f129 := Tryz.func252.trans (congrArg some (by kernel_rfl))
  f189 := Tryz.func160.trans (congrArg some (by kernel_rfl))
  f215 := Tryz.func231.trans (congrArg some (by kernel_rfl))
  f216 := Tryz.func248.trans (congrArg some (by kernel_rfl))
  f257 := Tryz.func213.trans (congrArg some (by kernel_rfl))
  f294 := Tryz.func242.trans (congrArg some (by kernel_rfl))
  f295 := Tryz.func243.trans (congrArg some (by kernel_rfl))
  f296 := Tryz.func244.trans (congrArg some (by kernel_rfl))
  f297 := Tryz.func245.trans (congrArg some (by kernel_rfl))
  f298 := Tryz.func246.trans (congrArg some (by kernel_rfl))
  f299 := Tryz.func247.trans (congrArg some (by kernel_rfl))
  f300 := Tryz.func249.trans (congrArg some (by kernel_rfl))
  f301 := Tryz.func250.trans (congrArg some (by kernel_rfl))
  f328 := Tryz.func260.trans (congrArg some (by kernel_rfl))
  f329 := Tryz.func261.trans (congrArg some (by kernel_rfl))
  f330 := Tryz.func262.trans (congrArg some (by kernel_rfl))
  f331 := Tryz.func263.trans (congrArg some (by kernel_rfl))
  f332 := Tryz.func264.trans (congrArg some (by kernel_rfl))
  f343 := Tryz.func270.trans (congrArg some (by kernel_rfl))
  t0 := Tryz.underlying0
  a0 := Tryz.isAgg0
  z0 := Tryz.sizeOf0
  v0 := Tryz.zeroValue0
  t3 := Tryz.underlying3
  a3 := Tryz.isAgg3
  z3 := Tryz.sizeOf3
  v3 := Tryz.zeroValue3
  t4 := Tryz.underlying4
  a4 := Tryz.isAgg4
  z4 := Tryz.sizeOf4
  v4 := Tryz.zeroValue4
  t5 := Tryz.underlying5
  a5 := Tryz.isAgg5
  z5 := Tryz.sizeOf5
  v5 := Tryz.zeroValue5
  t9 := Tryz.underlying9
  a9 := Tryz.isAgg9
  z9 := Tryz.sizeOf9
  v9 := Tryz.zeroValue9
  t28 := Tryz.underlying75
  a28 := Tryz.isAgg75
  z28 := Tryz.sizeOf75
  v28 := Tryz.zeroValue75
  t46 := Tryz.underlying231
  a46 := Tryz.isAgg231
  z46 := Tryz.sizeOf231
  v46 := Tryz.zeroValue231
  t51 := Tryz.underlying255
  a51 := Tryz.isAgg255
  z51 := Tryz.sizeOf255
  v51 := Tryz.zeroValue255
  t53 := Tryz.underlying146
  a53 := Tryz.isAgg146
  z53 := Tryz.sizeOf146
  v53 := Tryz.zeroValue146
  t131 := Tryz.underlying232
  a131 := Tryz.isAgg232
  z131 := Tryz.sizeOf232
  v131 := Tryz.zeroValue232
  t182 := Tryz.underlying249
  a182 := Tryz.isAgg249
  z182 := Tryz.sizeOf249
  v182 := Tryz.zeroValue249
  t183 := Tryz.underlying250
  a183 := Tryz.isAgg250
  z183 := Tryz.sizeOf250
  v183 := Tryz.zeroValue250
  t218 := Tryz.underlying265
  a218 := Tryz.isAgg265
  z218 := Tryz.sizeOf265
  v218 := Tryz.zeroValue265
  t222 := Tryz.underlying269
  a222 := Tryz.isAgg269
  z222 := Tryz.sizeOf269
  v222 := Tryz.zeroValue269
  t228 := Tryz.underlying275
  a228 := Tryz.isAgg275
  z228 := Tryz.sizeOf275
  v228 := Tryz.zeroValue275
  t229 := Tryz.underlying276
  a229 := Tryz.isAgg276
  z229 := Tryz.sizeOf276
  v229 := Tryz.zeroValue276 }
open Go.Sort Go.RowKit in
theorem Tryz.slices_Sort_int (blk off cap : Nat) (zs : List Int) (w : World) (hH : Holds (Value.int .i64) w blk off zs.toArray) (hblk : blk < w.heap.size) (hsz : zs.length < 4611686018427387904) :
    Calls Tryz.prog 160 #[.slice (some ⟨blk, off, none⟩) zs.length cap] w fun e w' =>
      e = .returned (.tuple #[]) ∧ ∃ n os, w' = grow (putRow (Value.int .i64) (Sort.ahead w n) blk off (zs.mergeSort fun x y => decide (x ≤ y)).toArray) os := Any.slices_Sort_int Tryz.lays189 blk off cap zs w hH hblk hsz
end Go.Proofs
