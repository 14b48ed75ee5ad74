/-
  DERIVED: THE SHELF's CONTRACTS AT THIS DUMP, IN PLAIN WORDS (tools/lay-plain.mjs out of 'YtoilpafpgndilaaGreatShelf.lean', which tools/lay-shelf.mjs wrote): THE SAME DECLARATIONS UNDER THE SAME NAMES: 'import', 'namespace', 'open', 'def', 'theorem' AND NOTHING ELSE: no command of the shelf's: FOR A HAND-IN. Each laying: the table of numbers ('.._ren') and one theorem, a field a fact of the dump's own or the kernel's comparison; each contract: ONE APPLICATION.
-/
import Derived.Shelf.Sort.Plain
import Derived.Ground.NamesProg
import Derived.Test.YtoilpafpgndilaaGreatProg
namespace Go.Proofs
open Go.Shelf Tryz
def Tryz.lays189_ren : Go.Shelf.Ren := ⟨fun | 189 => 126 | 125 => 129 | 257 => 163 | 128 => 172 | 129 => 173 | 294 => 245 | 295 => 246 | 296 => 247 | 297 => 248 | 298 => 249 | 299 => 250 | 216 => 251 | 300 => 252 | 301 => 253 | 328 => 330 | 329 => 255 | 330 => 256 | 331 => 331 | 332 => 332 | 215 => 106 | 343 => 369 | n => n, fun | 28 => 29 | 3 => 3 | 46 => 180 | 0 => 0 | 51 => 221 | 53 => 223 | 4 => 4 | 183 => 214 | 182 => 213 | 131 => 218 | 5 => 5 | 9 => 9 | 218 => 289 | 222 => 293 | 228 => 356 | 229 => 357 | n => n, fun | n => n⟩
theorem Tryz.lays189 : Go.Proofs.Lays.n189 Tryz.prog Tryz.lays189_ren := {
 mixed:=by kernel_rfl
 f125:=func129.trans (congrArg some (by kernel_rfl))
 f128:=func172.trans (congrArg some (by kernel_rfl))
 f129:=func173.trans (congrArg some (by kernel_rfl))
 f189:=func126.trans (congrArg some (by kernel_rfl))
 f215:=func106.trans (congrArg some (by kernel_rfl))
 f216:=func251.trans (congrArg some (by kernel_rfl))
 f257:=func163.trans (congrArg some (by kernel_rfl))
 f294:=func245.trans (congrArg some (by kernel_rfl))
 f295:=func246.trans (congrArg some (by kernel_rfl))
 f296:=func247.trans (congrArg some (by kernel_rfl))
 f297:=func248.trans (congrArg some (by kernel_rfl))
 f298:=func249.trans (congrArg some (by kernel_rfl))
 f299:=func250.trans (congrArg some (by kernel_rfl))
 f300:=func252.trans (congrArg some (by kernel_rfl))
 f301:=func253.trans (congrArg some (by kernel_rfl))
 f328:=func330.trans (congrArg some (by kernel_rfl))
 f329:=func255.trans (congrArg some (by kernel_rfl))
 f330:=func256.trans (congrArg some (by kernel_rfl))
 f331:=func331.trans (congrArg some (by kernel_rfl))
 f332:=func332.trans (congrArg some (by kernel_rfl))
 f343:=func369.trans (congrArg some (by kernel_rfl))
 t0:=underlying0
 a0:=isAgg0
 z0:=sizeOf0
 v0:=zeroValue0
 t3:=underlying3
 a3:=isAgg3
 z3:=sizeOf3
 v3:=zeroValue3
 t4:=underlying4
 a4:=isAgg4
 z4:=sizeOf4
 v4:=zeroValue4
 t5:=underlying5
 a5:=isAgg5
 z5:=sizeOf5
 v5:=zeroValue5
 t9:=underlying9
 a9:=isAgg9
 z9:=sizeOf9
 v9:=zeroValue9
 t28:=underlying29
 a28:=isAgg29
 z28:=sizeOf29
 v28:=zeroValue29
 t46:=underlying180
 a46:=isAgg180
 z46:=sizeOf180
 v46:=zeroValue180
 t51:=underlying221
 a51:=isAgg221
 z51:=sizeOf221
 v51:=zeroValue221
 t53:=underlying223
 a53:=isAgg223
 z53:=sizeOf223
 v53:=zeroValue223
 t131:=underlying218
 a131:=isAgg218
 z131:=sizeOf218
 v131:=zeroValue218
 t182:=underlying213
 a182:=isAgg213
 z182:=sizeOf213
 v182:=zeroValue213
 t183:=underlying214
 a183:=isAgg214
 z183:=sizeOf214
 v183:=zeroValue214
 t218:=underlying289
 a218:=isAgg289
 z218:=sizeOf289
 v218:=zeroValue289
 t222:=underlying293
 a222:=isAgg293
 z222:=sizeOf293
 v222:=zeroValue293
 t228:=underlying356
 a228:=isAgg356
 z228:=sizeOf356
 v228:=zeroValue356
 t229:=underlying357
 a229:=isAgg357
 z229:=sizeOf357
 v229:=zeroValue357 }
end Go.Proofs
