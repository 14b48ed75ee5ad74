/-
  The shelf's contracts at this dump, in plain words (relay.py).
-/
import Derived.Shelf.Sort.Plain
import Derived.Ground.NamesProg
import Derived.Test.YtgimfpcgbmpkhaaGreatProg
namespace Go.Proofs
open Go.Shelf
def Tryz.lays189_ren : Go.Shelf.Ren := ⟨fun | 189 => 218 | 125 => 217 | 257 => 261 | 128 => 259 | 129 => 260 | 294 => 317 | 295 => 318 | 296 => 319 | 297 => 320 | 298 => 321 | 299 => 322 | 216 => 323 | 300 => 324 | 301 => 325 | 328 => 352 | 329 => 313 | 330 => 314 | 331 => 353 | 332 => 354 | 215 => 224 | 343 => 359 | n => n, fun | 28 => 22 | 3 => 3 | 46 => 71 | 0 => 0 | 51 => 300 | 53 => 302 | 4 => 4 | 183 => 294 | 182 => 293 | 131 => 176 | 5 => 5 | 9 => 9 | 218 => 352 | 222 => 356 | 228 => 374 | 229 => 239 | n => n, fun | n => n⟩
theorem Tryz.lays189 : Go.Proofs.Lays.n189 Tryz.prog Tryz.lays189_ren := {
  mixed := by kernel_rfl
  f125 := Tryz.func217.trans (congrArg some (by kernel_rfl))
  f128 := Tryz.func259.trans (congrArg some (by kernel_rfl))
  f129 := Tryz.func260.trans (congrArg some (by kernel_rfl))
  f189 := Tryz.func218.trans (congrArg some (by kernel_rfl))
  f215 := Tryz.func224.trans (congrArg some (by kernel_rfl))
  f216 := Tryz.func323.trans (congrArg some (by kernel_rfl))
  f257 := Tryz.func261.trans (congrArg some (by kernel_rfl))
  f294 := Tryz.func317.trans (congrArg some (by kernel_rfl))
  f295 := Tryz.func318.trans (congrArg some (by kernel_rfl))
  f296 := Tryz.func319.trans (congrArg some (by kernel_rfl))
  f297 := Tryz.func320.trans (congrArg some (by kernel_rfl))
  f298 := Tryz.func321.trans (congrArg some (by kernel_rfl))
  f299 := Tryz.func322.trans (congrArg some (by kernel_rfl))
  f300 := Tryz.func324.trans (congrArg some (by kernel_rfl))
  f301 := Tryz.func325.trans (congrArg some (by kernel_rfl))
  f328 := Tryz.func352.trans (congrArg some (by kernel_rfl))
  f329 := Tryz.func313.trans (congrArg some (by kernel_rfl))
  f330 := Tryz.func314.trans (congrArg some (by kernel_rfl))
  f331 := Tryz.func353.trans (congrArg some (by kernel_rfl))
  f332 := Tryz.func354.trans (congrArg some (by kernel_rfl))
  f343 := Tryz.func359.trans (congrArg some (by kernel_rfl))
  t0 := Tryz.underlying0
  a0 := Tryz.isAgg0
  z0 := Tryz.sizeOf0
  v0 := Tryz.zeroValue0
  t3 := Tryz.underlying3
  a3 := Tryz.isAgg3
  z3 := Tryz.sizeOf3
  v3 := Tryz.zeroValue3
  t4 := Tryz.underlying4
  a4 := Tryz.isAgg4
  z4 := Tryz.sizeOf4
  v4 := Tryz.zeroValue4
  t5 := Tryz.underlying5
  a5 := Tryz.isAgg5
  z5 := Tryz.sizeOf5
  v5 := Tryz.zeroValue5
  t9 := Tryz.underlying9
  a9 := Tryz.isAgg9
  z9 := Tryz.sizeOf9
  v9 := Tryz.zeroValue9
  t28 := Tryz.underlying22
  a28 := Tryz.isAgg22
  z28 := Tryz.sizeOf22
  v28 := Tryz.zeroValue22
  t46 := Tryz.underlying71
  a46 := Tryz.isAgg71
  z46 := Tryz.sizeOf71
  v46 := Tryz.zeroValue71
  t51 := Tryz.underlying300
  a51 := Tryz.isAgg300
  z51 := Tryz.sizeOf300
  v51 := Tryz.zeroValue300
  t53 := Tryz.underlying302
  a53 := Tryz.isAgg302
  z53 := Tryz.sizeOf302
  v53 := Tryz.zeroValue302
  t131 := Tryz.underlying176
  a131 := Tryz.isAgg176
  z131 := Tryz.sizeOf176
  v131 := Tryz.zeroValue176
  t182 := Tryz.underlying293
  a182 := Tryz.isAgg293
  z182 := Tryz.sizeOf293
  v182 := Tryz.zeroValue293
  t183 := Tryz.underlying294
  a183 := Tryz.isAgg294
  z183 := Tryz.sizeOf294
  v183 := Tryz.zeroValue294
  t218 := Tryz.underlying352
  a218 := Tryz.isAgg352
  z218 := Tryz.sizeOf352
  v218 := Tryz.zeroValue352
  t222 := Tryz.underlying356
  a222 := Tryz.isAgg356
  z222 := Tryz.sizeOf356
  v222 := Tryz.zeroValue356
  t228 := Tryz.underlying374
  a228 := Tryz.isAgg374
  z228 := Tryz.sizeOf374
  v228 := Tryz.zeroValue374
  t229 := Tryz.underlying239
  a229 := Tryz.isAgg239
  z229 := Tryz.sizeOf239
  v229 := Tryz.zeroValue239 }
end Go.Proofs
