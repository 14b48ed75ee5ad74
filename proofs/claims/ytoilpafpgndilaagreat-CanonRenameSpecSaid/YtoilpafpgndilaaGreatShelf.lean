/-
  DERIVED: THE SHELF's CONTRACTS AT THIS DUMP, IN PLAIN WORDS (tools/lay-plain.mjs out of 'YtoilpafpgndilaaGreatShelf.lean', which tools/lay-shelf.mjs wrote): THE SAME DECLARATIONS UNDER THE SAME NAMES: 'import', 'namespace', 'open', 'def', 'theorem' AND NOTHING ELSE: no command of the shelf's: FOR A HAND-IN. Each laying: the table of numbers ('.._ren') and one theorem, a field a fact of the dump's own or the kernel's comparison; each contract: ONE APPLICATION.
-/
import Derived.Shelf.Sort.Plain
import Derived.Ground.NamesProg
import Derived.Test.YtoilpafpgndilaaGreatProg
namespace Go.Proofs
open Go.Shelf
def Tryz.lays189_ren : Go.Shelf.Ren := ⟨fun | 189 => 126 | 125 => 129 | 257 => 163 | 128 => 172 | 129 => 173 | 294 => 245 | 295 => 246 | 296 => 247 | 297 => 248 | 298 => 249 | 299 => 250 | 216 => 251 | 300 => 252 | 301 => 253 | 328 => 330 | 329 => 255 | 330 => 256 | 331 => 331 | 332 => 332 | 215 => 106 | 343 => 369 | n => n, fun | 28 => 29 | 3 => 3 | 46 => 180 | 0 => 0 | 51 => 221 | 53 => 223 | 4 => 4 | 183 => 214 | 182 => 213 | 131 => 218 | 5 => 5 | 9 => 9 | 218 => 289 | 222 => 293 | 228 => 356 | 229 => 357 | n => n, fun | n => n⟩
theorem Tryz.lays189 : Go.Proofs.Lays.n189 Tryz.prog Tryz.lays189_ren := {
  mixed := by kernel_rfl
  f125 := Tryz.func129.trans (congrArg some (by kernel_rfl))
  f128 := Tryz.func172.trans (congrArg some (by kernel_rfl))
  f129 := Tryz.func173.trans (congrArg some (by kernel_rfl))
  f189 := Tryz.func126.trans (congrArg some (by kernel_rfl))
  f215 := Tryz.func106.trans (congrArg some (by kernel_rfl))
  f216 := Tryz.func251.trans (congrArg some (by kernel_rfl))
  f257 := Tryz.func163.trans (congrArg some (by kernel_rfl))
  f294 := Tryz.func245.trans (congrArg some (by kernel_rfl))
  f295 := Tryz.func246.trans (congrArg some (by kernel_rfl))
  f296 := Tryz.func247.trans (congrArg some (by kernel_rfl))
  f297 := Tryz.func248.trans (congrArg some (by kernel_rfl))
  f298 := Tryz.func249.trans (congrArg some (by kernel_rfl))
  f299 := Tryz.func250.trans (congrArg some (by kernel_rfl))
  f300 := Tryz.func252.trans (congrArg some (by kernel_rfl))
  f301 := Tryz.func253.trans (congrArg some (by kernel_rfl))
  f328 := Tryz.func330.trans (congrArg some (by kernel_rfl))
  f329 := Tryz.func255.trans (congrArg some (by kernel_rfl))
  f330 := Tryz.func256.trans (congrArg some (by kernel_rfl))
  f331 := Tryz.func331.trans (congrArg some (by kernel_rfl))
  f332 := Tryz.func332.trans (congrArg some (by kernel_rfl))
  f343 := Tryz.func369.trans (congrArg some (by kernel_rfl))
  t0 := Tryz.underlying0
  a0 := Tryz.isAgg0
  z0 := Tryz.sizeOf0
  v0 := Tryz.zeroValue0
  t3 := Tryz.underlying3
  a3 := Tryz.isAgg3
  z3 := Tryz.sizeOf3
  v3 := Tryz.zeroValue3
  t4 := Tryz.underlying4
  a4 := Tryz.isAgg4
  z4 := Tryz.sizeOf4
  v4 := Tryz.zeroValue4
  t5 := Tryz.underlying5
  a5 := Tryz.isAgg5
  z5 := Tryz.sizeOf5
  v5 := Tryz.zeroValue5
  t9 := Tryz.underlying9
  a9 := Tryz.isAgg9
  z9 := Tryz.sizeOf9
  v9 := Tryz.zeroValue9
  t28 := Tryz.underlying29
  a28 := Tryz.isAgg29
  z28 := Tryz.sizeOf29
  v28 := Tryz.zeroValue29
  t46 := Tryz.underlying180
  a46 := Tryz.isAgg180
  z46 := Tryz.sizeOf180
  v46 := Tryz.zeroValue180
  t51 := Tryz.underlying221
  a51 := Tryz.isAgg221
  z51 := Tryz.sizeOf221
  v51 := Tryz.zeroValue221
  t53 := Tryz.underlying223
  a53 := Tryz.isAgg223
  z53 := Tryz.sizeOf223
  v53 := Tryz.zeroValue223
  t131 := Tryz.underlying218
  a131 := Tryz.isAgg218
  z131 := Tryz.sizeOf218
  v131 := Tryz.zeroValue218
  t182 := Tryz.underlying213
  a182 := Tryz.isAgg213
  z182 := Tryz.sizeOf213
  v182 := Tryz.zeroValue213
  t183 := Tryz.underlying214
  a183 := Tryz.isAgg214
  z183 := Tryz.sizeOf214
  v183 := Tryz.zeroValue214
  t218 := Tryz.underlying289
  a218 := Tryz.isAgg289
  z218 := Tryz.sizeOf289
  v218 := Tryz.zeroValue289
  t222 := Tryz.underlying293
  a222 := Tryz.isAgg293
  z222 := Tryz.sizeOf293
  v222 := Tryz.zeroValue293
  t228 := Tryz.underlying356
  a228 := Tryz.isAgg356
  z228 := Tryz.sizeOf356
  v228 := Tryz.zeroValue356
  t229 := Tryz.underlying357
  a229 := Tryz.isAgg357
  z229 := Tryz.sizeOf357
  v229 := Tryz.zeroValue357 }
end Go.Proofs
