/-
  The kit's contract of the library's Sort of texts, at this program (laid by the kit's own command, in plain declarations).
  Conditions: none.
-/
import Derived.Shelf.Sort.Plain
import Derived.Test.YtnhealghpfjdcaaProg
namespace Go.Proofs
open Go.Shelf
def Try.lays190_ren : Go.Shelf.Ren := ⟨fun | 190 => 143 | 125 => 181 | 258 => 180 | 128 => 201 | 129 => 202 | 302 => 193 | 303 => 194 | 304 => 195 | 305 => 196 | 306 => 197 | 307 => 198 | 308 => 182 | 309 => 199 | 310 => 200 | 333 => 208 | 329 => 209 | 330 => 210 | 334 => 211 | 335 => 212 | 336 => 203 | 344 => 214 | n => n, fun | 31 => 22 | 9 => 9 | 3 => 3 | 46 => 160 | 0 => 0 | 51 => 174 | 53 => 122 | 4 => 4 | 183 => 168 | 182 => 167 | 131 => 140 | 5 => 5 | 218 => 179 | 222 => 183 | 228 => 186 | 229 => 187 | n => n, fun | n => n⟩
theorem Try.lays190 : Go.Proofs.Lays.n190 Try.prog Try.lays190_ren := {
  mixed := by kernel_rfl
  f125 := Try.func181.trans (congrArg some (by kernel_rfl))
  f128 := Try.func201.trans (congrArg some (by kernel_rfl))
  f129 := Try.func202.trans (congrArg some (by kernel_rfl))
  f190 := Try.func143.trans (congrArg some (by kernel_rfl))
  f258 := Try.func180.trans (congrArg some (by kernel_rfl))
  f302 := Try.func193.trans (congrArg some (by kernel_rfl))
  f303 := Try.func194.trans (congrArg some (by kernel_rfl))
  f304 := Try.func195.trans (congrArg some (by kernel_rfl))
  f305 := Try.func196.trans (congrArg some (by kernel_rfl))
  f306 := Try.func197.trans (congrArg some (by kernel_rfl))
  f307 := Try.func198.trans (congrArg some (by kernel_rfl))
  f308 := Try.func182.trans (congrArg some (by kernel_rfl))
  f309 := Try.func199.trans (congrArg some (by kernel_rfl))
  f310 := Try.func200.trans (congrArg some (by kernel_rfl))
  f329 := Try.func209.trans (congrArg some (by kernel_rfl))
  f330 := Try.func210.trans (congrArg some (by kernel_rfl))
  f333 := Try.func208.trans (congrArg some (by kernel_rfl))
  f334 := Try.func211.trans (congrArg some (by kernel_rfl))
  f335 := Try.func212.trans (congrArg some (by kernel_rfl))
  f336 := Try.func203.trans (congrArg some (by kernel_rfl))
  f344 := Try.func214.trans (congrArg some (by kernel_rfl))
  t0 := Try.underlying0
  a0 := Try.isAgg0
  z0 := Try.sizeOf0
  v0 := Try.zeroValue0
  t3 := Try.underlying3
  a3 := Try.isAgg3
  z3 := Try.sizeOf3
  v3 := Try.zeroValue3
  t4 := Try.underlying4
  a4 := Try.isAgg4
  z4 := Try.sizeOf4
  v4 := Try.zeroValue4
  t5 := Try.underlying5
  a5 := Try.isAgg5
  z5 := Try.sizeOf5
  v5 := Try.zeroValue5
  t9 := Try.underlying9
  a9 := Try.isAgg9
  z9 := Try.sizeOf9
  v9 := Try.zeroValue9
  t31 := Try.underlying22
  a31 := Try.isAgg22
  z31 := Try.sizeOf22
  v31 := Try.zeroValue22
  t46 := Try.underlying160
  a46 := Try.isAgg160
  z46 := Try.sizeOf160
  v46 := Try.zeroValue160
  t51 := Try.underlying174
  a51 := Try.isAgg174
  z51 := Try.sizeOf174
  v51 := Try.zeroValue174
  t53 := Try.underlying122
  a53 := Try.isAgg122
  z53 := Try.sizeOf122
  v53 := Try.zeroValue122
  t131 := Try.underlying140
  a131 := Try.isAgg140
  z131 := Try.sizeOf140
  v131 := Try.zeroValue140
  t182 := Try.underlying167
  a182 := Try.isAgg167
  z182 := Try.sizeOf167
  v182 := Try.zeroValue167
  t183 := Try.underlying168
  a183 := Try.isAgg168
  z183 := Try.sizeOf168
  v183 := Try.zeroValue168
  t218 := Try.underlying179
  a218 := Try.isAgg179
  z218 := Try.sizeOf179
  v218 := Try.zeroValue179
  t222 := Try.underlying183
  a222 := Try.isAgg183
  z222 := Try.sizeOf183
  v222 := Try.zeroValue183
  t228 := Try.underlying186
  a228 := Try.isAgg186
  z228 := Try.sizeOf186
  v228 := Try.zeroValue186
  t229 := Try.underlying187
  a229 := Try.isAgg187
  z229 := Try.sizeOf187
  v229 := Try.zeroValue187 }
open Go.Sort Go.RowKit in
theorem Try.slices_Sort_string (blk off cap : Nat) (ss : List (List UInt8)) (w : World) (hH : Holds encStr w blk off ss.toArray) (hblk : blk < w.heap.size) (hsz : ss.length < 4611686018427387904) :
    Calls Try.prog 143 #[.slice (some ⟨blk, off, none⟩) ss.length cap] w fun e w' =>
      e = .returned (.tuple #[]) ∧ ∃ n os, w' = grow (putRow encStr (Sort.ahead w n) blk off (ss.mergeSort fun x y => decide (x ≤ y)).toArray) os := Any.slices_Sort_string Try.lays190 blk off cap ss w hH hblk hsz
end Go.Proofs
