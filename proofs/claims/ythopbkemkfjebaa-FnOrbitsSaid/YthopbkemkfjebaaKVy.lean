/-
  The kit's contract of the library's Sort of texts, at this program (laid by the kit's own command, in plain declarations).
  Conditions: none.
-/
import Derived.Shelf.Sort.Plain
import Derived.Test.YthopbkemkfjebaaProg
namespace Go.Proofs
open Go.Shelf
def Try.lays190_ren : Go.Shelf.Ren := ⟨fun | 190 => 134 | 125 => 132 | 258 => 178 | 128 => 176 | 129 => 177 | 302 => 197 | 303 => 198 | 304 => 199 | 305 => 200 | 306 => 201 | 307 => 202 | 308 => 203 | 309 => 204 | 310 => 205 | 333 => 214 | 329 => 192 | 330 => 193 | 334 => 215 | 335 => 216 | 336 => 217 | 344 => 220 | n => n, fun | 31 => 24 | 9 => 9 | 3 => 3 | 46 => 143 | 0 => 0 | 51 => 170 | 53 => 78 | 4 => 4 | 183 => 163 | 182 => 162 | 131 => 49 | 5 => 5 | 218 => 177 | 222 => 181 | 228 => 192 | 229 => 193 | n => n, fun | n => n⟩
theorem Try.lays190 : Go.Proofs.Lays.n190 Try.prog Try.lays190_ren := {
  mixed := by kernel_rfl
  f125 := Try.func132.trans (congrArg some (by kernel_rfl))
  f128 := Try.func176.trans (congrArg some (by kernel_rfl))
  f129 := Try.func177.trans (congrArg some (by kernel_rfl))
  f190 := Try.func134.trans (congrArg some (by kernel_rfl))
  f258 := Try.func178.trans (congrArg some (by kernel_rfl))
  f302 := Try.func197.trans (congrArg some (by kernel_rfl))
  f303 := Try.func198.trans (congrArg some (by kernel_rfl))
  f304 := Try.func199.trans (congrArg some (by kernel_rfl))
  f305 := Try.func200.trans (congrArg some (by kernel_rfl))
  f306 := Try.func201.trans (congrArg some (by kernel_rfl))
  f307 := Try.func202.trans (congrArg some (by kernel_rfl))
  f308 := Try.func203.trans (congrArg some (by kernel_rfl))
  f309 := Try.func204.trans (congrArg some (by kernel_rfl))
  f310 := Try.func205.trans (congrArg some (by kernel_rfl))
  f329 := Try.func192.trans (congrArg some (by kernel_rfl))
  f330 := Try.func193.trans (congrArg some (by kernel_rfl))
  f333 := Try.func214.trans (congrArg some (by kernel_rfl))
  f334 := Try.func215.trans (congrArg some (by kernel_rfl))
  f335 := Try.func216.trans (congrArg some (by kernel_rfl))
  f336 := Try.func217.trans (congrArg some (by kernel_rfl))
  f344 := Try.func220.trans (congrArg some (by kernel_rfl))
  t0 := Try.underlying0
  a0 := Try.isAgg0
  z0 := Try.sizeOf0
  v0 := Try.zeroValue0
  t3 := Try.underlying3
  a3 := Try.isAgg3
  z3 := Try.sizeOf3
  v3 := Try.zeroValue3
  t4 := Try.underlying4
  a4 := Try.isAgg4
  z4 := Try.sizeOf4
  v4 := Try.zeroValue4
  t5 := Try.underlying5
  a5 := Try.isAgg5
  z5 := Try.sizeOf5
  v5 := Try.zeroValue5
  t9 := Try.underlying9
  a9 := Try.isAgg9
  z9 := Try.sizeOf9
  v9 := Try.zeroValue9
  t31 := Try.underlying24
  a31 := Try.isAgg24
  z31 := Try.sizeOf24
  v31 := Try.zeroValue24
  t46 := Try.underlying143
  a46 := Try.isAgg143
  z46 := Try.sizeOf143
  v46 := Try.zeroValue143
  t51 := Try.underlying170
  a51 := Try.isAgg170
  z51 := Try.sizeOf170
  v51 := Try.zeroValue170
  t53 := Try.underlying78
  a53 := Try.isAgg78
  z53 := Try.sizeOf78
  v53 := Try.zeroValue78
  t131 := Try.underlying49
  a131 := Try.isAgg49
  z131 := Try.sizeOf49
  v131 := Try.zeroValue49
  t182 := Try.underlying162
  a182 := Try.isAgg162
  z182 := Try.sizeOf162
  v182 := Try.zeroValue162
  t183 := Try.underlying163
  a183 := Try.isAgg163
  z183 := Try.sizeOf163
  v183 := Try.zeroValue163
  t218 := Try.underlying177
  a218 := Try.isAgg177
  z218 := Try.sizeOf177
  v218 := Try.zeroValue177
  t222 := Try.underlying181
  a222 := Try.isAgg181
  z222 := Try.sizeOf181
  v222 := Try.zeroValue181
  t228 := Try.underlying192
  a228 := Try.isAgg192
  z228 := Try.sizeOf192
  v228 := Try.zeroValue192
  t229 := Try.underlying193
  a229 := Try.isAgg193
  z229 := Try.sizeOf193
  v229 := Try.zeroValue193 }
open Go.Sort Go.RowKit in
theorem Try.slices_Sort_string (blk off cap : Nat) (ss : List (List UInt8)) (w : World) (hH : Holds encStr w blk off ss.toArray) (hblk : blk < w.heap.size) (hsz : ss.length < 4611686018427387904) :
    Calls Try.prog 134 #[.slice (some ⟨blk, off, none⟩) ss.length cap] w fun e w' =>
      e = .returned (.tuple #[]) ∧ ∃ n os, w' = grow (putRow encStr (Sort.ahead w n) blk off (ss.mergeSort fun x y => decide (x ≤ y)).toArray) os := Any.slices_Sort_string Try.lays190 blk off cap ss w hH hblk hsz
end Go.Proofs
