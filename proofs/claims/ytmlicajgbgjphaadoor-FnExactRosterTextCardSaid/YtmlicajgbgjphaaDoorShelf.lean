/- Laws of Go's library, laid at this program by the kit's tools. No condition. -/
import Derived.Shelf.Strings.OnBuilder
import Derived.Shelf.Strconv.Itoa3
import Derived.Test.YtmlicajgbgjphaaDoorProg
namespace Go.Proofs
open Go.Shelf
def Tryd.lays156_ren : Go.Shelf.Ren := ⟨fun | 156 => 203 | 165 => 240 | 166 => 241 | 169 => 242 | 240 => 268 | 241 => 269 | 276 => 285 | 277 => 286 | n => n, fun | 31 => 80 | 9 => 9 | 3 => 3 | 4 => 4 | 0 => 0 | 20 => 20 | 72 => 211 | 76 => 215 | 70 => 209 | 37 => 43 | 75 => 214 | 127 => 239 | 164 => 251 | 5 => 5 | 80 => 168 | n => n, fun | n => n⟩
theorem Tryd.lays156 : Go.Proofs.Lays.n156 Tryd.prog Tryd.lays156_ren := {
  mixed := by kernel_rfl
  f156 := Tryd.func203.trans (congrArg some (by kernel_rfl))
  f165 := Tryd.func240.trans (congrArg some (by kernel_rfl))
  f166 := Tryd.func241.trans (congrArg some (by kernel_rfl))
  f169 := Tryd.func242.trans (congrArg some (by kernel_rfl))
  f240 := Tryd.func268.trans (congrArg some (by kernel_rfl))
  f241 := Tryd.func269.trans (congrArg some (by kernel_rfl))
  f276 := Tryd.func285.trans (congrArg some (by kernel_rfl))
  f277 := Tryd.func286.trans (congrArg some (by kernel_rfl))
  t0 := Tryd.underlying0
  a0 := Tryd.isAgg0
  z0 := Tryd.sizeOf0
  v0 := Tryd.zeroValue0
  t3 := Tryd.underlying3
  a3 := Tryd.isAgg3
  z3 := Tryd.sizeOf3
  v3 := Tryd.zeroValue3
  t4 := Tryd.underlying4
  a4 := Tryd.isAgg4
  z4 := Tryd.sizeOf4
  v4 := Tryd.zeroValue4
  t9 := Tryd.underlying9
  a9 := Tryd.isAgg9
  z9 := Tryd.sizeOf9
  v9 := Tryd.zeroValue9
  t20 := Tryd.underlying20
  a20 := Tryd.isAgg20
  z20 := Tryd.sizeOf20
  v20 := Tryd.zeroValue20
  t31 := Tryd.underlying80
  a31 := Tryd.isAgg80
  z31 := Tryd.sizeOf80
  v31 := Tryd.zeroValue80
  t37 := Tryd.underlying43
  a37 := Tryd.isAgg43
  z37 := Tryd.sizeOf43
  v37 := Tryd.zeroValue43
  t70 := Tryd.underlying209
  a70 := Tryd.isAgg209
  z70 := Tryd.sizeOf209
  v70 := Tryd.zeroValue209
  t72 := Tryd.underlying211
  a72 := Tryd.isAgg211
  z72 := Tryd.sizeOf211
  v72 := Tryd.zeroValue211
  t75 := Tryd.underlying214
  a75 := Tryd.isAgg214
  z75 := Tryd.sizeOf214
  v75 := Tryd.zeroValue214
  t76 := Tryd.underlying215
  a76 := Tryd.isAgg215
  z76 := Tryd.sizeOf215
  v76 := Tryd.zeroValue215
  t127 := Tryd.underlying239
  a127 := Tryd.isAgg239
  z127 := Tryd.sizeOf239
  v127 := Tryd.zeroValue239
  t164 := Tryd.underlying251
  a164 := Tryd.isAgg251
  z164 := Tryd.sizeOf251
  v164 := Tryd.zeroValue251 }
theorem Tryd.Builder_Extra_156 : Builder.Extra Tryd.prog Tryd.lays156_ren := {
  sizeBuilder := by kernel_rfl
  liesBuilder := by kernel_rfl
  t5 := Tryd.underlying5
  a5 := Tryd.isAgg5
  z5 := Tryd.sizeOf5
  v5 := Tryd.zeroValue5
  infoByte := by kernel_rfl
  cellsByte := by kernel_rfl
  sizeByte := by kernel_rfl
  neB5 := by decide }
open Go.RowKit in
/-- No element: the empty string; the world is as it was. (Whatever the slice's address and capacity: a nil slice too.) (LAID: no walk: one application.) -/
theorem Tryd.strings_Join_none (a : Option Addr) (c : Nat) (sep : ByteArray) (w : World) :
    Calls Tryd.prog 203 #[.slice a 0 c, .string sep] w fun e w' => e = .returned (.string ⟨#[]⟩) ∧ w' = w := Any.strings_Join_none Tryd.lays156 Tryd.Builder_Extra_156 a c sep w
open Go.RowKit in
/-- strings.Join: "Join concatenates the elements of its first argument to create a single string. The separator string sep is placed between elements in the resulting string.": HOWEVER MANY ELEMENTS. Below the heap's end the world is as it was. (LAID: no walk: one application.) -/
theorem Tryd.strings_Join (bk o c : Nat) (xs : List ByteArray) (sep : ByteArray) (w : World) (hcells : ∀ (j : Nat) x, xs[j]? = some x → w.cell? ⟨bk, o + j, none⟩ = some (.string x)) (hbk : bk < w.heap.size) (hN : xs.length ≤ 140737488355328) (hcap : xs.length ≤ c) (hlen : (Lib.join (xs.map (·.data.toList)) sep.data.toList).length ≤ 140737488355328) :
    Calls Tryd.prog 203 #[.slice (some ⟨bk, o, none⟩) xs.length c, .string sep] w fun e w' => e = .returned (.string ⟨(Lib.join (xs.map (·.data.toList)) sep.data.toList).toArray⟩) ∧ Below w.heap.size w w' := Any.strings_Join Tryd.lays156 Tryd.Builder_Extra_156 bk o c xs sep w hcells hbk hN hcap hlen
def Tryd.laysM171_ren : Go.Shelf.Ren := ⟨fun | 171 => 108 | 243 => 201 | 246 => 239 | 283 => 264 | 284 => 265 | 285 => 266 | 286 => 267 | 129 => 263 | 317 => 281 | 318 => 282 | 319 => 283 | 320 => 284 | 337 => 290 | 338 => 291 | n => n, fun | 3 => 3 | 9 => 9 | 2 => 2 | 4 => 4 | 171 => 235 | 0 => 0 | 53 => 142 | 37 => 43 | 5 => 5 | 173 => 237 | 212 => 249 | 51 => 233 | 20 => 20 | 213 => 250 | 46 => 202 | 232 => 258 | 233 => 259 | n => n, fun | 17 => 0 | 18 => 2 | 19 => 3 | n => n⟩
theorem Tryd.laysM171 : Go.Proofs.LaysM.n171 Tryd.prog Tryd.laysM171_ren := {
  mixed := by kernel_rfl
  f129 := Tryd.func263.trans (congrArg some (by kernel_rfl))
  f171 := Tryd.func108.trans (congrArg some (by kernel_rfl))
  f243 := Tryd.func201.trans (congrArg some (by kernel_rfl))
  f246 := Tryd.func239.trans (congrArg some (by kernel_rfl))
  f283 := Tryd.func264.trans (congrArg some (by kernel_rfl))
  f284 := Tryd.func265.trans (congrArg some (by kernel_rfl))
  f285 := Tryd.func266.trans (congrArg some (by kernel_rfl))
  f286 := Tryd.func267.trans (congrArg some (by kernel_rfl))
  f317 := Tryd.func281.trans (congrArg some (by kernel_rfl))
  f318 := Tryd.func282.trans (congrArg some (by kernel_rfl))
  f319 := Tryd.func283.trans (congrArg some (by kernel_rfl))
  f320 := Tryd.func284.trans (congrArg some (by kernel_rfl))
  f337 := Tryd.func290.trans (congrArg some (by kernel_rfl))
  f338 := Tryd.func291.trans (congrArg some (by kernel_rfl))
  t0 := Tryd.underlying0
  a0 := Tryd.isAgg0
  z0 := Tryd.sizeOf0
  v0 := Tryd.zeroValue0
  t2 := Tryd.underlying2
  a2 := Tryd.isAgg2
  z2 := Tryd.sizeOf2
  v2 := Tryd.zeroValue2
  t3 := Tryd.underlying3
  a3 := Tryd.isAgg3
  z3 := Tryd.sizeOf3
  v3 := Tryd.zeroValue3
  t4 := Tryd.underlying4
  a4 := Tryd.isAgg4
  z4 := Tryd.sizeOf4
  v4 := Tryd.zeroValue4
  t5 := Tryd.underlying5
  a5 := Tryd.isAgg5
  z5 := Tryd.sizeOf5
  v5 := Tryd.zeroValue5
  t9 := Tryd.underlying9
  a9 := Tryd.isAgg9
  z9 := Tryd.sizeOf9
  v9 := Tryd.zeroValue9
  t20 := Tryd.underlying20
  a20 := Tryd.isAgg20
  z20 := Tryd.sizeOf20
  v20 := Tryd.zeroValue20
  t37 := Tryd.underlying43
  a37 := Tryd.isAgg43
  z37 := Tryd.sizeOf43
  v37 := Tryd.zeroValue43
  t46 := Tryd.underlying202
  a46 := Tryd.isAgg202
  z46 := Tryd.sizeOf202
  v46 := Tryd.zeroValue202
  t51 := Tryd.underlying233
  a51 := Tryd.isAgg233
  z51 := Tryd.sizeOf233
  v51 := Tryd.zeroValue233
  t53 := Tryd.underlying142
  a53 := Tryd.isAgg142
  z53 := Tryd.sizeOf142
  v53 := Tryd.zeroValue142
  t171 := Tryd.underlying235
  a171 := Tryd.isAgg235
  z171 := Tryd.sizeOf235
  v171 := Tryd.zeroValue235
  t173 := Tryd.underlying237
  a173 := Tryd.isAgg237
  z173 := Tryd.sizeOf237
  v173 := Tryd.zeroValue237
  t212 := Tryd.underlying249
  a212 := Tryd.isAgg249
  z212 := Tryd.sizeOf249
  v212 := Tryd.zeroValue249
  t213 := Tryd.underlying250
  a213 := Tryd.isAgg250
  z213 := Tryd.sizeOf250
  t232 := Tryd.underlying258
  a232 := Tryd.isAgg258
  z232 := Tryd.sizeOf258
  v232 := Tryd.zeroValue258
  t233 := Tryd.underlying259
  a233 := Tryd.isAgg259
  z233 := Tryd.sizeOf259
  v233 := Tryd.zeroValue259
  g17 := by kernel_rfl
  g18 := by kernel_rfl
  g19 := by kernel_rfl
  i0 := by kernel_rfl
  i2 := by kernel_rfl
  i3 := by kernel_rfl
  i4 := by kernel_rfl
  i5 := by kernel_rfl
  i9 := by kernel_rfl
  i20 := by kernel_rfl
  i37 := by kernel_rfl
  i46 := by kernel_rfl
  i51 := by kernel_rfl
  i53 := by kernel_rfl
  i171 := by kernel_rfl
  i173 := by kernel_rfl
  i212 := by kernel_rfl
  i232 := by kernel_rfl
  i233 := by kernel_rfl
  m17 := by kernel_rfl
  m18 := by kernel_rfl
  m19 := by kernel_rfl }
open Go.RowKit Go.Sort Go.Lib in
/-- strconv.Itoa: "Itoa is equivalent to FormatInt(int64(i), 10).": i's DECIMAL NUMERAL ('Lib.itoa': a '-' where i is negative, then the digits), FOR EVERY int. The world behind the call: the world before it, new blocks behind the heap (the library's 'var a [24]byte'), draws. (LAID: no walk: one application.) -/
theorem Tryd.strconv_Itoa (n : Int) (h0 : -9223372036854775808 ≤ n) (h1 : n ≤ 9223372036854775807) (w : World) (htab : Lib.TabIs Tryd.prog w "internal/strconv.uint64pow10" .u64 Lib.pow10Tab) :
    Calls Tryd.prog 108 #[.int .i64 n] w fun e w' => e = .returned (.string ⟨(Lib.itoa n).toArray⟩) ∧ ∃ k os, w' = grow (w.drewN k) os := Any.strconv_Itoa Tryd.laysM171 n h0 h1 w htab
end Go.Proofs
