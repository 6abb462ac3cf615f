/- Lemmas that the last text rests on. Condition: each says its own. -/
import Derived.Shelf.Sort.Plain
import Derived.Shelf.Slices.In.SortNone
import Derived.Test.YtdaihdknnlphkaaGreatDoorProg
set_option maxHeartbeats 16000000
set_option maxRecDepth 100000
namespace Go.Proofs
open Go.Shelf
def Tryz.lays189_ren : Go.Shelf.Ren := ⟨fun | 189 => 94 | 125 => 119 | 257 => 118 | 128 => 141 | 129 => 142 | 294 => 132 | 295 => 133 | 296 => 134 | 297 => 135 | 298 => 136 | 299 => 137 | 216 => 138 | 300 => 139 | 301 => 140 | 328 => 159 | 329 => 160 | 330 => 161 | 331 => 162 | 332 => 163 | 215 => 164 | 343 => 176 | n => n, fun | 28 => 43 | 3 => 3 | 46 => 137 | 0 => 0 | 51 => 163 | 53 => 165 | 4 => 4 | 183 => 155 | 182 => 154 | 131 => 160 | 5 => 5 | 9 => 9 | 218 => 177 | 222 => 181 | 228 => 203 | 229 => 204 | n => n, fun | n => n⟩
theorem Tryz.lays189 : Go.Proofs.Lays.n189 Tryz.prog Tryz.lays189_ren := {
 mixed := by kernel_rfl
 f125 := Tryz.func119.trans (congrArg some (by kernel_rfl))
 f128 := Tryz.func141.trans (congrArg some (by kernel_rfl))
 f129 := Tryz.func142.trans (congrArg some (by kernel_rfl))
 f189 := Tryz.func94.trans (congrArg some (by kernel_rfl))
 f215 := Tryz.func164.trans (congrArg some (by kernel_rfl))
 f216 := Tryz.func138.trans (congrArg some (by kernel_rfl))
 f257 := Tryz.func118.trans (congrArg some (by kernel_rfl))
 f294 := Tryz.func132.trans (congrArg some (by kernel_rfl))
 f295 := Tryz.func133.trans (congrArg some (by kernel_rfl))
 f296 := Tryz.func134.trans (congrArg some (by kernel_rfl))
 f297 := Tryz.func135.trans (congrArg some (by kernel_rfl))
 f298 := Tryz.func136.trans (congrArg some (by kernel_rfl))
 f299 := Tryz.func137.trans (congrArg some (by kernel_rfl))
 f300 := Tryz.func139.trans (congrArg some (by kernel_rfl))
 f301 := Tryz.func140.trans (congrArg some (by kernel_rfl))
 f328 := Tryz.func159.trans (congrArg some (by kernel_rfl))
 f329 := Tryz.func160.trans (congrArg some (by kernel_rfl))
 f330 := Tryz.func161.trans (congrArg some (by kernel_rfl))
 f331 := Tryz.func162.trans (congrArg some (by kernel_rfl))
 f332 := Tryz.func163.trans (congrArg some (by kernel_rfl))
 f343 := Tryz.func176.trans (congrArg some (by kernel_rfl))
 t0 := Tryz.underlying0
 a0 := Tryz.isAgg0
 z0 := Tryz.sizeOf0
 v0 := Tryz.zeroValue0
 t3 := Tryz.underlying3
 a3 := Tryz.isAgg3
 z3 := Tryz.sizeOf3
 v3 := Tryz.zeroValue3
 t4 := Tryz.underlying4
 a4 := Tryz.isAgg4
 z4 := Tryz.sizeOf4
 v4 := Tryz.zeroValue4
 t5 := Tryz.underlying5
 a5 := Tryz.isAgg5
 z5 := Tryz.sizeOf5
 v5 := Tryz.zeroValue5
 t9 := Tryz.underlying9
 a9 := Tryz.isAgg9
 z9 := Tryz.sizeOf9
 v9 := Tryz.zeroValue9
 t28 := Tryz.underlying43
 a28 := Tryz.isAgg43
 z28 := Tryz.sizeOf43
 v28 := Tryz.zeroValue43
 t46 := Tryz.underlying137
 a46 := Tryz.isAgg137
 z46 := Tryz.sizeOf137
 v46 := Tryz.zeroValue137
 t51 := Tryz.underlying163
 a51 := Tryz.isAgg163
 z51 := Tryz.sizeOf163
 v51 := Tryz.zeroValue163
 t53 := Tryz.underlying165
 a53 := Tryz.isAgg165
 z53 := Tryz.sizeOf165
 v53 := Tryz.zeroValue165
 t131 := Tryz.underlying160
 a131 := Tryz.isAgg160
 z131 := Tryz.sizeOf160
 v131 := Tryz.zeroValue160
 t182 := Tryz.underlying154
 a182 := Tryz.isAgg154
 z182 := Tryz.sizeOf154
 v182 := Tryz.zeroValue154
 t183 := Tryz.underlying155
 a183 := Tryz.isAgg155
 z183 := Tryz.sizeOf155
 v183 := Tryz.zeroValue155
 t218 := Tryz.underlying177
 a218 := Tryz.isAgg177
 z218 := Tryz.sizeOf177
 v218 := Tryz.zeroValue177
 t222 := Tryz.underlying181
 a222 := Tryz.isAgg181
 z222 := Tryz.sizeOf181
 v222 := Tryz.zeroValue181
 t228 := Tryz.underlying203
 a228 := Tryz.isAgg203
 z228 := Tryz.sizeOf203
 v228 := Tryz.zeroValue203
 t229 := Tryz.underlying204
 a229 := Tryz.isAgg204
 z229 := Tryz.sizeOf204
 v229 := Tryz.zeroValue204 }
open Go.Sort Go.RowKit in
theorem Tryz.slices_Sort_int (blk off cap : Nat) (zs : List Int) (w : World) (hH : Holds (Value.int .i64) w blk off zs.toArray) (hblk : blk < w.heap.size) (hsz : zs.length < 4611686018427387904) :
 Calls Tryz.prog 94 #[.slice (some ⟨blk, off, none⟩) zs.length cap] w fun e w' =>
  e = .returned (.tuple #[]) ∧ ∃ n os, w' = grow (putRow (Value.int .i64) (Sort.ahead w n) blk off (zs.mergeSort fun x y => decide (x ≤ y)).toArray) os := Any.slices_Sort_int Tryz.lays189 blk off cap zs w hH hblk hsz
open Go.RowKit Go.Sort in
theorem Tryz.slices_Sort_int_none (p : Option Addr) (cap : Nat) (w : World) :
 Calls Tryz.prog 94 #[.slice p 0 cap] w fun e w' => e = .returned (.tuple #[]) ∧ w' = w := Any.slices_Sort_int_none Tryz.lays189 p cap w
end Go.Proofs
