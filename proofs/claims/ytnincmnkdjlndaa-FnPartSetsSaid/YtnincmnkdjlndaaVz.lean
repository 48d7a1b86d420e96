/-
  The kit's contract of the library's Repeat, at this program (laid by the kit's own command, in plain declarations).
  Conditions: none.
-/
import Derived.Shelf.Strings.Repeat
import Derived.Test.YtnincmnkdjlndaaProg
namespace Go.Proofs
open Go.Shelf
def Try.lays105_ren : Go.Shelf.Ren := ⟨fun | 105 => 289 | 212 => 324 | 99 => 325 | 165 => 326 | 166 => 327 | 170 => 328 | 169 => 329 | 263 => 355 | 264 => 356 | 206 => 357 | 240 => 358 | 241 => 359 | 276 => 367 | 277 => 368 | n => n, fun | 9 => 9 | 3 => 3 | 4 => 4 | 20 => 20 | 0 => 0 | 46 => 193 | 109 => 215 | 5 => 5 | 72 => 219 | 76 => 223 | 51 => 211 | 146 => 240 | 53 => 119 | 148 => 242 | 70 => 217 | 37 => 22 | 75 => 222 | 127 => 244 | 164 => 251 | 80 => 154 | n => n, fun | n => n⟩
theorem Try.lays105 : Go.Proofs.Lays.n105 Try.prog Try.lays105_ren := {
  mixed := by kernel_rfl
  f99 := Try.func325.trans (congrArg some (by kernel_rfl))
  f105 := Try.func289.trans (congrArg some (by kernel_rfl))
  f165 := Try.func326.trans (congrArg some (by kernel_rfl))
  f166 := Try.func327.trans (congrArg some (by kernel_rfl))
  f169 := Try.func329.trans (congrArg some (by kernel_rfl))
  f170 := Try.func328.trans (congrArg some (by kernel_rfl))
  f206 := Try.func357.trans (congrArg some (by kernel_rfl))
  f212 := Try.func324.trans (congrArg some (by kernel_rfl))
  f240 := Try.func358.trans (congrArg some (by kernel_rfl))
  f241 := Try.func359.trans (congrArg some (by kernel_rfl))
  f263 := Try.func355.trans (congrArg some (by kernel_rfl))
  f264 := Try.func356.trans (congrArg some (by kernel_rfl))
  f276 := Try.func367.trans (congrArg some (by kernel_rfl))
  f277 := Try.func368.trans (congrArg some (by kernel_rfl))
  t0 := Try.underlying0
  a0 := Try.isAgg0
  z0 := Try.sizeOf0
  v0 := Try.zeroValue0
  t3 := Try.underlying3
  a3 := Try.isAgg3
  z3 := Try.sizeOf3
  v3 := Try.zeroValue3
  t4 := Try.underlying4
  a4 := Try.isAgg4
  z4 := Try.sizeOf4
  v4 := Try.zeroValue4
  t5 := Try.underlying5
  a5 := Try.isAgg5
  z5 := Try.sizeOf5
  v5 := Try.zeroValue5
  t9 := Try.underlying9
  a9 := Try.isAgg9
  z9 := Try.sizeOf9
  v9 := Try.zeroValue9
  t20 := Try.underlying20
  a20 := Try.isAgg20
  z20 := Try.sizeOf20
  v20 := Try.zeroValue20
  t37 := Try.underlying22
  a37 := Try.isAgg22
  z37 := Try.sizeOf22
  v37 := Try.zeroValue22
  t46 := Try.underlying193
  a46 := Try.isAgg193
  z46 := Try.sizeOf193
  v46 := Try.zeroValue193
  t51 := Try.underlying211
  a51 := Try.isAgg211
  z51 := Try.sizeOf211
  v51 := Try.zeroValue211
  t53 := Try.underlying119
  a53 := Try.isAgg119
  z53 := Try.sizeOf119
  v53 := Try.zeroValue119
  t70 := Try.underlying217
  a70 := Try.isAgg217
  z70 := Try.sizeOf217
  v70 := Try.zeroValue217
  t72 := Try.underlying219
  a72 := Try.isAgg219
  z72 := Try.sizeOf219
  v72 := Try.zeroValue219
  t75 := Try.underlying222
  a75 := Try.isAgg222
  z75 := Try.sizeOf222
  v75 := Try.zeroValue222
  t76 := Try.underlying223
  a76 := Try.isAgg223
  z76 := Try.sizeOf223
  v76 := Try.zeroValue223
  t109 := Try.underlying215
  a109 := Try.isAgg215
  z109 := Try.sizeOf215
  v109 := Try.zeroValue215
  t127 := Try.underlying244
  a127 := Try.isAgg244
  z127 := Try.sizeOf244
  v127 := Try.zeroValue244
  t146 := Try.underlying240
  a146 := Try.isAgg240
  z146 := Try.sizeOf240
  v146 := Try.zeroValue240
  t148 := Try.underlying242
  a148 := Try.isAgg242
  z148 := Try.sizeOf242
  v148 := Try.zeroValue242
  t164 := Try.underlying251
  a164 := Try.isAgg251
  z164 := Try.sizeOf251
  v164 := Try.zeroValue251 }
theorem Try.Builder_Extra_105 : Builder.Extra Try.prog Try.lays105_ren := {
  sizeBuilder := by kernel_rfl
  liesBuilder := by kernel_rfl
  t5 := Try.underlying5
  a5 := Try.isAgg5
  z5 := Try.sizeOf5
  v5 := Try.zeroValue5
  infoByte := by kernel_rfl
  cellsByte := by kernel_rfl
  sizeByte := by kernel_rfl
  neB5 := by decide }
open Go.RowKit Go.Lib in
theorem Try.strings_Repeat (s : ByteArray) (c : Nat) (w : World) (hc : c ≤ 9223372036854775807) (hlen : s.size * c ≤ 140737488355328) :
    Calls Try.prog 289 #[.string s, .int .i64 c] w fun e w' => e = .returned (.string ⟨(Lib.repeatL s.data.toList c).toArray⟩) ∧ Below w.heap.size w w' := Any.strings_Repeat Try.lays105 Try.Builder_Extra_105 s c w hc hlen
end Go.Proofs
