/- Contracts of the functions that the statement reaches, printed by a program out of the translation and joined with the plain laws. -/
import Derived.Shelf.Small.Bits
import Derived.Shelf.Small.Wraps
import Derived.Shelf.Strconv.Itoa0
import Derived.Shelf.Sort.Plain
import Derived.Ground.Names2Prog
import Derived.Shelf.Slices.CompactI
import Derived.Shelf.Slices.SearchI
import Derived.Shelf.Slices.Cells
import Derived.Test.YtmanlcakdcoekaaProg
import Derived.Shelf.SlSortCmp.WholeK
import Derived.Ground.SlsfProg
section
namespace Go.Proofs
open Go.Shelf
def Try.lays215_ren : Go.Shelf.Ren := ⟨fun | 215 => 112 | n => n, fun | 3 => 3 | 4 => 4 | n => n, fun | n => n⟩
theorem Try.lays215 : Go.Proofs.Lays.n215 Try.prog Try.lays215_ren := {
 mixed := by kernel_rfl
 f215 := Try.func112.trans (congrArg some (by kernel_rfl))
 t3 := Try.underlying3
 a3 := Try.isAgg3
 z3 := Try.sizeOf3
 v3 := Try.zeroValue3
 t4 := Try.underlying4
 a4 := Try.isAgg4
 z4 := Try.sizeOf4
 v4 := Try.zeroValue4 }
open Go.RowKit in
/-- cmp.isNaN at int: 'x != x': false. (LAID: no walk: one application.) -/
theorem Try.cmp_isNaN_int (x : Int) (w : World) :
  Calls Try.prog 112 #[.int .i64 x] w fun e w' => e = .returned (.bool false) ∧ w' = w := Any.cmp_isNaN_int Try.lays215 x w
def Try.lays122_ren : Go.Shelf.Ren := ⟨fun | 122 => 101 | 215 => 112 | n => n, fun | 3 => 3 | 4 => 4 | n => n, fun | n => n⟩
theorem Try.lays122 : Go.Proofs.Lays.n122 Try.prog Try.lays122_ren := {
 mixed := by kernel_rfl
 f122 := Try.func101.trans (congrArg some (by kernel_rfl))
 f215 := Try.func112.trans (congrArg some (by kernel_rfl))
 t3 := Try.underlying3
 a3 := Try.isAgg3
 z3 := Try.sizeOf3
 v3 := Try.zeroValue3
 t4 := Try.underlying4
 a4 := Try.isAgg4
 z4 := Try.sizeOf4
 v4 := Try.zeroValue4 }
open Go.RowKit in
/-- cmp.Compare at int: "Compare returns -1 if x is less than y, 0 if x equals y, +1 if x is greater than y.": IT RETURNS 'Lib.compareInt x y'; the world is as it was. (LAID: no walk: one application.) -/
theorem Try.cmp_Compare_int (x y : Int) (w : World) :
  Calls Try.prog 101 #[.int .i64 x, .int .i64 y] w fun e w' => e = .returned (.int .i64 (Lib.compareInt x y)) ∧ w' = w := Any.cmp_Compare_int Try.lays122 x y w
def Try.lays189_ren : Go.Shelf.Ren := ⟨fun | 189 => 106 | 125 => 116 | 257 => 115 | 128 => 95 | 129 => 128 | 294 => 119 | 295 => 120 | 296 => 121 | 297 => 122 | 298 => 123 | 299 => 124 | 216 => 125 | 300 => 126 | 301 => 127 | 328 => 137 | 329 => 138 | 330 => 139 | 331 => 140 | 332 => 141 | 215 => 112 | 343 => 145 | n => n, fun | 28 => 65 | 3 => 3 | 46 => 116 | 0 => 0 | 51 => 87 | 53 => 136 | 4 => 4 | 183 => 128 | 182 => 127 | 131 => 133 | 5 => 5 | 9 => 9 | 218 => 142 | 222 => 146 | 228 => 150 | 229 => 23 | n => n, fun | n => n⟩
theorem Try.lays189 : Go.Proofs.Lays.n189 Try.prog Try.lays189_ren := {
 mixed := by kernel_rfl
 f125 := Try.func116.trans (congrArg some (by kernel_rfl))
 f128 := Try.func95.trans (congrArg some (by kernel_rfl))
 f129 := Try.func128.trans (congrArg some (by kernel_rfl))
 f189 := Try.func106.trans (congrArg some (by kernel_rfl))
 f215 := Try.func112.trans (congrArg some (by kernel_rfl))
 f216 := Try.func125.trans (congrArg some (by kernel_rfl))
 f257 := Try.func115.trans (congrArg some (by kernel_rfl))
 f294 := Try.func119.trans (congrArg some (by kernel_rfl))
 f295 := Try.func120.trans (congrArg some (by kernel_rfl))
 f296 := Try.func121.trans (congrArg some (by kernel_rfl))
 f297 := Try.func122.trans (congrArg some (by kernel_rfl))
 f298 := Try.func123.trans (congrArg some (by kernel_rfl))
 f299 := Try.func124.trans (congrArg some (by kernel_rfl))
 f300 := Try.func126.trans (congrArg some (by kernel_rfl))
 f301 := Try.func127.trans (congrArg some (by kernel_rfl))
 f328 := Try.func137.trans (congrArg some (by kernel_rfl))
 f329 := Try.func138.trans (congrArg some (by kernel_rfl))
 f330 := Try.func139.trans (congrArg some (by kernel_rfl))
 f331 := Try.func140.trans (congrArg some (by kernel_rfl))
 f332 := Try.func141.trans (congrArg some (by kernel_rfl))
 f343 := Try.func145.trans (congrArg some (by kernel_rfl))
 t0 := Try.underlying0
 a0 := Try.isAgg0
 z0 := Try.sizeOf0
 v0 := Try.zeroValue0
 t3 := Try.underlying3
 a3 := Try.isAgg3
 z3 := Try.sizeOf3
 v3 := Try.zeroValue3
 t4 := Try.underlying4
 a4 := Try.isAgg4
 z4 := Try.sizeOf4
 v4 := Try.zeroValue4
 t5 := Try.underlying5
 a5 := Try.isAgg5
 z5 := Try.sizeOf5
 v5 := Try.zeroValue5
 t9 := Try.underlying9
 a9 := Try.isAgg9
 z9 := Try.sizeOf9
 v9 := Try.zeroValue9
 t28 := Try.underlying65
 a28 := Try.isAgg65
 z28 := Try.sizeOf65
 v28 := Try.zeroValue65
 t46 := Try.underlying116
 a46 := Try.isAgg116
 z46 := Try.sizeOf116
 v46 := Try.zeroValue116
 t51 := Try.underlying87
 a51 := Try.isAgg87
 z51 := Try.sizeOf87
 v51 := Try.zeroValue87
 t53 := Try.underlying136
 a53 := Try.isAgg136
 z53 := Try.sizeOf136
 v53 := Try.zeroValue136
 t131 := Try.underlying133
 a131 := Try.isAgg133
 z131 := Try.sizeOf133
 v131 := Try.zeroValue133
 t182 := Try.underlying127
 a182 := Try.isAgg127
 z182 := Try.sizeOf127
 v182 := Try.zeroValue127
 t183 := Try.underlying128
 a183 := Try.isAgg128
 z183 := Try.sizeOf128
 v183 := Try.zeroValue128
 t218 := Try.underlying142
 a218 := Try.isAgg142
 z218 := Try.sizeOf142
 v218 := Try.zeroValue142
 t222 := Try.underlying146
 a222 := Try.isAgg146
 z222 := Try.sizeOf146
 v222 := Try.zeroValue146
 t228 := Try.underlying150
 a228 := Try.isAgg150
 z228 := Try.sizeOf150
 v228 := Try.zeroValue150
 t229 := Try.underlying23
 a229 := Try.isAgg23
 z229 := Try.sizeOf23
 v229 := Try.zeroValue23 }
open Go.Sort Go.RowKit in
theorem Try.slices_Sort_int (blk off cap : Nat) (zs : List Int) (w : World) (hH : Holds (Value.int .i64) w blk off zs.toArray) (hblk : blk < w.heap.size) (hsz : zs.length < 4611686018427387904) :
  Calls Try.prog 106 #[.slice (some ⟨blk, off, none⟩) zs.length cap] w fun e w' =>
   e = .returned (.tuple #[]) ∧ ∃ n os, w' = grow (putRow (Value.int .i64) (Sort.ahead w n) blk off (zs.mergeSort fun x y => decide (x ≤ y)).toArray) os := Any.slices_Sort_int Try.lays189 blk off cap zs w hH hblk hsz
def Try.laysNm220_ren : Go.Shelf.Ren := ⟨fun | 20 => 107 | n => n, fun | 22 => 65 | 3 => 3 | 4 => 4 | 0 => 0 | n => n, fun | n => n⟩
theorem Try.laysNm220 : Go.Proofs.Lays2.n20 Try.prog Try.laysNm220_ren := {
 mixed := by kernel_rfl
 f20 := Try.func107.trans (congrArg some (by kernel_rfl))
 t0 := Try.underlying0
 a0 := Try.isAgg0
 z0 := Try.sizeOf0
 v0 := Try.zeroValue0
 t3 := Try.underlying3
 a3 := Try.isAgg3
 z3 := Try.sizeOf3
 v3 := Try.zeroValue3
 t4 := Try.underlying4
 a4 := Try.isAgg4
 z4 := Try.sizeOf4
 v4 := Try.zeroValue4
 t22 := Try.underlying65
 a22 := Try.isAgg65
 z22 := Try.sizeOf65
 v22 := Try.zeroValue65
 i3 := by kernel_rfl }
open Go.RowKit Go.Lib Go.Sort in
/-- slices.Compact at []int: "Compact replaces consecutive runs of equal elements with a single copy. This is like the uniq command found on Unix. Compact modifies the contents of the slice s and returns the modified slice, which may have a smaller length. Compact zeroes the elements between the new length and the original length. The result preserves the nilness of s.": IT RETURNS THE SLICE CUT TO 'Lib.compact zs'; ITS CELLS HOLD 'Lib.compact zs', THEN ZERO VALUES up to the old length; all else is as it was, but for the count of draws. IN THE WORDS OF slices.Sort's CONTRACT ('Holds', 'putRow'): so the everyday 'slices.Sort(xs); xs = slices.Compact(xs)' goes from the one contract to the other. It asks 'zs.length ≤ cap' (every slice's: the reslicing 's[:k]' looks at it). Length 0, nil: '.._empty'. (LAID: no walk: one application.) -/
theorem Try.slices_Compact_int (blk off cap : Nat) (zs : List Int) (w : World) (hH : Holds (Value.int .i64) w blk off zs.toArray) (hsz : zs.length ≤ 9223372036854775807) (hcap : zs.length ≤ cap) :
  Calls Try.prog 107 #[.slice (some ⟨blk, off, none⟩) zs.length cap] w fun e w' => e = .returned (.slice (some ⟨blk, off, none⟩) (Lib.compact zs).length cap) ∧ ∃ q, w' = putRow (Value.int .i64) (Sort.ahead w q) blk off (Lib.compact zs ++ List.replicate (zs.length - (Lib.compact zs).length) 0).toArray := Any.slices_Compact_int Try.laysNm220 blk off cap zs w hH hsz hcap
def Try.sortFn_ren : Go.Shelf.Ren := ⟨fun | 6 => 110 | 15 => 116 | 14 => 118 | 28 => 95 | 29 => 128 | 20 => 129 | 21 => 130 | 22 => 131 | 23 => 132 | 24 => 133 | 25 => 134 | 26 => 135 | 27 => 136 | 46 => 142 | 47 => 138 | 48 => 139 | 49 => 143 | 50 => 144 | 57 => 146 | n => n, fun | 22 => 75 | 24 => 68 | 25 => 110 | 3 => 3 | 39 => 116 | 0 => 0 | 53 => 87 | 55 => 136 | 4 => 4 | 46 => 128 | 45 => 127 | 50 => 133 | 5 => 5 | 9 => 9 | 66 => 142 | 70 => 146 | 76 => 150 | 77 => 23 | n => n, fun | n => n⟩
theorem Try.sortFn : Go.Proofs.SlLaysF0.n6 Try.prog Try.sortFn_ren := {
 mixed := by kernel_rfl
 f6 := ⟨Try.f110.name, by decide, Try.func110.trans (congrArg some (by kernel_rfl))⟩
 f14 := ⟨Try.f118.name, by decide, Try.func118.trans (congrArg some (by kernel_rfl))⟩
 f15 := Try.func116.trans (congrArg some (by kernel_rfl))
 f20 := ⟨Try.f129.name, by decide, Try.func129.trans (congrArg some (by kernel_rfl))⟩
 f21 := ⟨Try.f130.name, by decide, Try.func130.trans (congrArg some (by kernel_rfl))⟩
 f22 := ⟨Try.f131.name, by decide, Try.func131.trans (congrArg some (by kernel_rfl))⟩
 f23 := ⟨Try.f132.name, by decide, Try.func132.trans (congrArg some (by kernel_rfl))⟩
 f24 := ⟨Try.f133.name, by decide, Try.func133.trans (congrArg some (by kernel_rfl))⟩
 f25 := ⟨Try.f134.name, by decide, Try.func134.trans (congrArg some (by kernel_rfl))⟩
 f26 := ⟨Try.f135.name, by decide, Try.func135.trans (congrArg some (by kernel_rfl))⟩
 f27 := ⟨Try.f136.name, by decide, Try.func136.trans (congrArg some (by kernel_rfl))⟩
 f28 := Try.func95.trans (congrArg some (by kernel_rfl))
 f29 := Try.func128.trans (congrArg some (by kernel_rfl))
 f46 := ⟨Try.f142.name, by decide, Try.func142.trans (congrArg some (by kernel_rfl))⟩
 f47 := Try.func138.trans (congrArg some (by kernel_rfl))
 f48 := Try.func139.trans (congrArg some (by kernel_rfl))
 f49 := ⟨Try.f143.name, by decide, Try.func143.trans (congrArg some (by kernel_rfl))⟩
 f50 := ⟨Try.f144.name, by decide, Try.func144.trans (congrArg some (by kernel_rfl))⟩
 f57 := ⟨Try.f146.name, by decide, Try.func146.trans (congrArg some (by kernel_rfl))⟩
 t0 := Try.underlying0
 a0 := Try.isAgg0
 z0 := Try.sizeOf0
 v0 := Try.zeroValue0
 t3 := Try.underlying3
 a3 := Try.isAgg3
 z3 := Try.sizeOf3
 v3 := Try.zeroValue3
 t4 := Try.underlying4
 a4 := Try.isAgg4
 z4 := Try.sizeOf4
 v4 := Try.zeroValue4
 t5 := Try.underlying5
 a5 := Try.isAgg5
 z5 := Try.sizeOf5
 v5 := Try.zeroValue5
 t9 := Try.underlying9
 a9 := Try.isAgg9
 z9 := Try.sizeOf9
 v9 := Try.zeroValue9
 t22 := Try.underlying75
 a22 := Try.isAgg75
 z22 := Try.sizeOf75
 v22 := Try.zeroValue75
 t25 := Try.underlying110
 a25 := Try.isAgg110
 z25 := Try.sizeOf110
 v25 := Try.zeroValue110
 t39 := Try.underlying116
 a39 := Try.isAgg116
 z39 := Try.sizeOf116
 v39 := Try.zeroValue116
 t45 := Try.underlying127
 a45 := Try.isAgg127
 z45 := Try.sizeOf127
 v45 := Try.zeroValue127
 t46 := Try.underlying128
 a46 := Try.isAgg128
 z46 := Try.sizeOf128
 v46 := Try.zeroValue128
 t50 := Try.underlying133
 a50 := Try.isAgg133
 z50 := Try.sizeOf133
 v50 := Try.zeroValue133
 t53 := Try.underlying87
 a53 := Try.isAgg87
 z53 := Try.sizeOf87
 v53 := Try.zeroValue87
 t55 := Try.underlying136
 a55 := Try.isAgg136
 z55 := Try.sizeOf136
 v55 := Try.zeroValue136
 t66 := Try.underlying142
 a66 := Try.isAgg142
 z66 := Try.sizeOf142
 v66 := Try.zeroValue142
 t70 := Try.underlying146
 a70 := Try.isAgg146
 z70 := Try.sizeOf146
 v70 := Try.zeroValue146
 t76 := Try.underlying150
 a76 := Try.isAgg150
 z76 := Try.sizeOf150
 v76 := Try.zeroValue150
 t77 := Try.underlying23
 a77 := Try.isAgg23
 z77 := Try.sizeOf23
 v77 := Try.zeroValue23 }
end Go.Proofs
end
