/-
  The kit's contract of the library's Sort of texts, at this program (laid by the kit's own command, in plain declarations).
  Conditions: none.
-/
import Derived.Shelf.Sort.Plain
import Derived.Test.YtnincmnkdjlndaaProg
namespace Go.Proofs
open Go.Shelf
def Try.lays190_ren : Go.Shelf.Ren := ⟨fun | 190 => 206 | 125 => 282 | 258 => 281 | 128 => 318 | 129 => 319 | 302 => 309 | 303 => 310 | 304 => 311 | 305 => 312 | 306 => 313 | 307 => 314 | 308 => 315 | 309 => 316 | 310 => 317 | 333 => 347 | 329 => 348 | 330 => 349 | 334 => 350 | 335 => 351 | 336 => 352 | 344 => 365 | n => n, fun | 31 => 24 | 9 => 9 | 3 => 3 | 46 => 193 | 0 => 0 | 51 => 211 | 53 => 119 | 4 => 4 | 183 => 205 | 182 => 204 | 131 => 57 | 5 => 5 | 218 => 233 | 222 => 237 | 228 => 247 | 229 => 248 | n => n, fun | n => n⟩
theorem Try.lays190 : Go.Proofs.Lays.n190 Try.prog Try.lays190_ren := {
  mixed := by kernel_rfl
  f125 := Try.func282.trans (congrArg some (by kernel_rfl))
  f128 := Try.func318.trans (congrArg some (by kernel_rfl))
  f129 := Try.func319.trans (congrArg some (by kernel_rfl))
  f190 := Try.func206.trans (congrArg some (by kernel_rfl))
  f258 := Try.func281.trans (congrArg some (by kernel_rfl))
  f302 := Try.func309.trans (congrArg some (by kernel_rfl))
  f303 := Try.func310.trans (congrArg some (by kernel_rfl))
  f304 := Try.func311.trans (congrArg some (by kernel_rfl))
  f305 := Try.func312.trans (congrArg some (by kernel_rfl))
  f306 := Try.func313.trans (congrArg some (by kernel_rfl))
  f307 := Try.func314.trans (congrArg some (by kernel_rfl))
  f308 := Try.func315.trans (congrArg some (by kernel_rfl))
  f309 := Try.func316.trans (congrArg some (by kernel_rfl))
  f310 := Try.func317.trans (congrArg some (by kernel_rfl))
  f329 := Try.func348.trans (congrArg some (by kernel_rfl))
  f330 := Try.func349.trans (congrArg some (by kernel_rfl))
  f333 := Try.func347.trans (congrArg some (by kernel_rfl))
  f334 := Try.func350.trans (congrArg some (by kernel_rfl))
  f335 := Try.func351.trans (congrArg some (by kernel_rfl))
  f336 := Try.func352.trans (congrArg some (by kernel_rfl))
  f344 := Try.func365.trans (congrArg some (by kernel_rfl))
  t0 := Try.underlying0
  a0 := Try.isAgg0
  z0 := Try.sizeOf0
  v0 := Try.zeroValue0
  t3 := Try.underlying3
  a3 := Try.isAgg3
  z3 := Try.sizeOf3
  v3 := Try.zeroValue3
  t4 := Try.underlying4
  a4 := Try.isAgg4
  z4 := Try.sizeOf4
  v4 := Try.zeroValue4
  t5 := Try.underlying5
  a5 := Try.isAgg5
  z5 := Try.sizeOf5
  v5 := Try.zeroValue5
  t9 := Try.underlying9
  a9 := Try.isAgg9
  z9 := Try.sizeOf9
  v9 := Try.zeroValue9
  t31 := Try.underlying24
  a31 := Try.isAgg24
  z31 := Try.sizeOf24
  v31 := Try.zeroValue24
  t46 := Try.underlying193
  a46 := Try.isAgg193
  z46 := Try.sizeOf193
  v46 := Try.zeroValue193
  t51 := Try.underlying211
  a51 := Try.isAgg211
  z51 := Try.sizeOf211
  v51 := Try.zeroValue211
  t53 := Try.underlying119
  a53 := Try.isAgg119
  z53 := Try.sizeOf119
  v53 := Try.zeroValue119
  t131 := Try.underlying57
  a131 := Try.isAgg57
  z131 := Try.sizeOf57
  v131 := Try.zeroValue57
  t182 := Try.underlying204
  a182 := Try.isAgg204
  z182 := Try.sizeOf204
  v182 := Try.zeroValue204
  t183 := Try.underlying205
  a183 := Try.isAgg205
  z183 := Try.sizeOf205
  v183 := Try.zeroValue205
  t218 := Try.underlying233
  a218 := Try.isAgg233
  z218 := Try.sizeOf233
  v218 := Try.zeroValue233
  t222 := Try.underlying237
  a222 := Try.isAgg237
  z222 := Try.sizeOf237
  v222 := Try.zeroValue237
  t228 := Try.underlying247
  a228 := Try.isAgg247
  z228 := Try.sizeOf247
  v228 := Try.zeroValue247
  t229 := Try.underlying248
  a229 := Try.isAgg248
  z229 := Try.sizeOf248
  v229 := Try.zeroValue248 }
open Go.Sort Go.RowKit in
theorem Try.slices_Sort_string (blk off cap : Nat) (ss : List (List UInt8)) (w : World) (hH : Holds encStr w blk off ss.toArray) (hblk : blk < w.heap.size) (hsz : ss.length < 4611686018427387904) :
    Calls Try.prog 206 #[.slice (some ⟨blk, off, none⟩) ss.length cap] w fun e w' =>
      e = .returned (.tuple #[]) ∧ ∃ n os, w' = grow (putRow encStr (Sort.ahead w n) blk off (ss.mergeSort fun x y => decide (x ≤ y)).toArray) os := Any.slices_Sort_string Try.lays190 blk off cap ss w hH hblk hsz
end Go.Proofs
