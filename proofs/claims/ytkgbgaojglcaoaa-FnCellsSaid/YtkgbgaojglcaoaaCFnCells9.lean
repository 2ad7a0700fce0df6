/- Contracts of the functions that the statement reaches, printed by a program out of the translation and joined with the plain laws. -/
import Derived.Shelf.Small.Bits
import Derived.Shelf.Small.Wraps
import Derived.Shelf.Strconv.Itoa0
import Derived.Shelf.Sort.Plain
import Derived.Ground.Names2Prog
import Derived.Shelf.Slices.CompactI
import Derived.Shelf.Slices.SearchI
import Derived.Test.YtkgbgaojglcaoaaProg
section
namespace Go.Proofs
open Go.Shelf
def Try.lays189_ren : Go.Shelf.Ren := ⟨fun | 189 => 111 | 125 => 138 | 257 => 137 | 128 => 153 | 129 => 154 | 294 => 144 | 295 => 145 | 296 => 146 | 297 => 147 | 298 => 148 | 299 => 149 | 216 => 150 | 300 => 151 | 301 => 152 | 328 => 157 | 329 => 158 | 330 => 159 | 331 => 160 | 332 => 161 | 215 => 142 | 343 => 162 | n => n, fun | 28 => 50 | 3 => 3 | 46 => 156 | 0 => 0 | 51 => 168 | 53 => 170 | 4 => 4 | 183 => 161 | 182 => 160 | 131 => 24 | 5 => 5 | 9 => 9 | 218 => 171 | 222 => 175 | 228 => 177 | 229 => 118 | n => n, fun | n => n⟩
theorem Try.lays189 : Go.Proofs.Lays.n189 Try.prog Try.lays189_ren := {
 mixed := by kernel_rfl
 f125 := Try.func138.trans (congrArg some (by kernel_rfl))
 f128 := Try.func153.trans (congrArg some (by kernel_rfl))
 f129 := Try.func154.trans (congrArg some (by kernel_rfl))
 f189 := Try.func111.trans (congrArg some (by kernel_rfl))
 f215 := Try.func142.trans (congrArg some (by kernel_rfl))
 f216 := Try.func150.trans (congrArg some (by kernel_rfl))
 f257 := Try.func137.trans (congrArg some (by kernel_rfl))
 f294 := Try.func144.trans (congrArg some (by kernel_rfl))
 f295 := Try.func145.trans (congrArg some (by kernel_rfl))
 f296 := Try.func146.trans (congrArg some (by kernel_rfl))
 f297 := Try.func147.trans (congrArg some (by kernel_rfl))
 f298 := Try.func148.trans (congrArg some (by kernel_rfl))
 f299 := Try.func149.trans (congrArg some (by kernel_rfl))
 f300 := Try.func151.trans (congrArg some (by kernel_rfl))
 f301 := Try.func152.trans (congrArg some (by kernel_rfl))
 f328 := Try.func157.trans (congrArg some (by kernel_rfl))
 f329 := Try.func158.trans (congrArg some (by kernel_rfl))
 f330 := Try.func159.trans (congrArg some (by kernel_rfl))
 f331 := Try.func160.trans (congrArg some (by kernel_rfl))
 f332 := Try.func161.trans (congrArg some (by kernel_rfl))
 f343 := Try.func162.trans (congrArg some (by kernel_rfl))
 t0 := Try.underlying0
 a0 := Try.isAgg0
 z0 := Try.sizeOf0
 v0 := Try.zeroValue0
 t3 := Try.underlying3
 a3 := Try.isAgg3
 z3 := Try.sizeOf3
 v3 := Try.zeroValue3
 t4 := Try.underlying4
 a4 := Try.isAgg4
 z4 := Try.sizeOf4
 v4 := Try.zeroValue4
 t5 := Try.underlying5
 a5 := Try.isAgg5
 z5 := Try.sizeOf5
 v5 := Try.zeroValue5
 t9 := Try.underlying9
 a9 := Try.isAgg9
 z9 := Try.sizeOf9
 v9 := Try.zeroValue9
 t28 := Try.underlying50
 a28 := Try.isAgg50
 z28 := Try.sizeOf50
 v28 := Try.zeroValue50
 t46 := Try.underlying156
 a46 := Try.isAgg156
 z46 := Try.sizeOf156
 v46 := Try.zeroValue156
 t51 := Try.underlying168
 a51 := Try.isAgg168
 z51 := Try.sizeOf168
 v51 := Try.zeroValue168
 t53 := Try.underlying170
 a53 := Try.isAgg170
 z53 := Try.sizeOf170
 v53 := Try.zeroValue170
 t131 := Try.underlying24
 a131 := Try.isAgg24
 z131 := Try.sizeOf24
 v131 := Try.zeroValue24
 t182 := Try.underlying160
 a182 := Try.isAgg160
 z182 := Try.sizeOf160
 v182 := Try.zeroValue160
 t183 := Try.underlying161
 a183 := Try.isAgg161
 z183 := Try.sizeOf161
 v183 := Try.zeroValue161
 t218 := Try.underlying171
 a218 := Try.isAgg171
 z218 := Try.sizeOf171
 v218 := Try.zeroValue171
 t222 := Try.underlying175
 a222 := Try.isAgg175
 z222 := Try.sizeOf175
 v222 := Try.zeroValue175
 t228 := Try.underlying177
 a228 := Try.isAgg177
 z228 := Try.sizeOf177
 v228 := Try.zeroValue177
 t229 := Try.underlying118
 a229 := Try.isAgg118
 z229 := Try.sizeOf118
 v229 := Try.zeroValue118 }
open Go.Sort Go.RowKit in
theorem Try.slices_Sort_int (blk off cap : Nat) (zs : List Int) (w : World) (hH : Holds (Value.int .i64) w blk off zs.toArray) (hblk : blk < w.heap.size) (hsz : zs.length < 4611686018427387904) :
  Calls Try.prog 111 #[.slice (some ⟨blk, off, none⟩) zs.length cap] w fun e w' =>
   e = .returned (.tuple #[]) ∧ ∃ n os, w' = grow (putRow (Value.int .i64) (Sort.ahead w n) blk off (zs.mergeSort fun x y => decide (x ≤ y)).toArray) os := Any.slices_Sort_int Try.lays189 blk off cap zs w hH hblk hsz
def Try.laysNm220_ren : Go.Shelf.Ren := ⟨fun | 20 => 112 | n => n, fun | 22 => 50 | 3 => 3 | 4 => 4 | 0 => 0 | n => n, fun | n => n⟩
theorem Try.laysNm220 : Go.Proofs.Lays2.n20 Try.prog Try.laysNm220_ren := {
 mixed := by kernel_rfl
 f20 := Try.func112.trans (congrArg some (by kernel_rfl))
 t0 := Try.underlying0
 a0 := Try.isAgg0
 z0 := Try.sizeOf0
 v0 := Try.zeroValue0
 t3 := Try.underlying3
 a3 := Try.isAgg3
 z3 := Try.sizeOf3
 v3 := Try.zeroValue3
 t4 := Try.underlying4
 a4 := Try.isAgg4
 z4 := Try.sizeOf4
 v4 := Try.zeroValue4
 t22 := Try.underlying50
 a22 := Try.isAgg50
 z22 := Try.sizeOf50
 v22 := Try.zeroValue50
 i3 := by kernel_rfl }
open Go.RowKit Go.Lib Go.Sort in
/-- slices.Compact at []int: "Compact replaces consecutive runs of equal elements with a single copy. This is like the uniq command found on Unix. Compact modifies the contents of the slice s and returns the modified slice, which may have a smaller length. Compact zeroes the elements between the new length and the original length. The result preserves the nilness of s.": IT RETURNS THE SLICE CUT TO 'Lib.compact zs'; ITS CELLS HOLD 'Lib.compact zs', THEN ZERO VALUES up to the old length; all else is as it was, but for the count of draws. IN THE WORDS OF slices.Sort's CONTRACT ('Holds', 'putRow'): so the everyday 'slices.Sort(xs); xs = slices.Compact(xs)' goes from the one contract to the other. It asks 'zs.length ≤ cap' (every slice's: the reslicing 's[:k]' looks at it). Length 0, nil: '.._empty'. (LAID: no walk: one application.) -/
theorem Try.slices_Compact_int (blk off cap : Nat) (zs : List Int) (w : World) (hH : Holds (Value.int .i64) w blk off zs.toArray) (hsz : zs.length ≤ 9223372036854775807) (hcap : zs.length ≤ cap) :
  Calls Try.prog 112 #[.slice (some ⟨blk, off, none⟩) zs.length cap] w fun e w' => e = .returned (.slice (some ⟨blk, off, none⟩) (Lib.compact zs).length cap) ∧ ∃ q, w' = putRow (Value.int .i64) (Sort.ahead w q) blk off (Lib.compact zs ++ List.replicate (zs.length - (Lib.compact zs).length) 0).toArray := Any.slices_Compact_int Try.laysNm220 blk off cap zs w hH hsz hcap
end Go.Proofs
end
