/-
  DERIVED: THE SHELF's CONTRACTS AT THIS DUMP, IN PLAIN WORDS (tools/lay-plain.mjs out of 'YtpkieeggilkagaaGreatShelf.lean', which tools/lay-shelf.mjs wrote): THE SAME DECLARATIONS UNDER THE SAME NAMES: 'import', 'namespace', 'open', 'def', 'theorem' AND NOTHING ELSE: no command of the shelf's: FOR A HAND-IN. Each laying: the table of numbers ('.._ren') and one theorem, a field a fact of the dump's own or the kernel's comparison; each contract: ONE APPLICATION.
-/
import Derived.Shelf.Sort.Plain
import Derived.Ground.NamesProg
import Derived.Test.YtpkieeggilkagaaGreatProg
namespace Go.Proofs
open Go.Shelf
def Tryz.lays189_ren : Go.Shelf.Ren := ⟨fun | 189 => 249 | 125 => 271 | 257 => 270 | 128 => 288 | 129 => 289 | 294 => 280 | 295 => 281 | 296 => 282 | 297 => 283 | 298 => 284 | 299 => 285 | 216 => 267 | 300 => 286 | 301 => 287 | 328 => 291 | 329 => 292 | 330 => 293 | 331 => 294 | 332 => 295 | 215 => 203 | 343 => 296 | n => n, fun | 28 => 22 | 3 => 3 | 46 => 178 | 0 => 0 | 51 => 269 | 53 => 271 | 4 => 4 | 183 => 264 | 182 => 263 | 131 => 143 | 5 => 5 | 9 => 9 | 218 => 273 | 222 => 277 | 228 => 279 | 229 => 176 | n => n, fun | n => n⟩
theorem Tryz.lays189 : Go.Proofs.Lays.n189 Tryz.prog Tryz.lays189_ren := {
  mixed := by kernel_rfl
  f125 := Tryz.func271.trans (congrArg some (by kernel_rfl))
  f128 := Tryz.func288.trans (congrArg some (by kernel_rfl))
  f129 := Tryz.func289.trans (congrArg some (by kernel_rfl))
  f189 := Tryz.func249.trans (congrArg some (by kernel_rfl))
  f215 := Tryz.func203.trans (congrArg some (by kernel_rfl))
  f216 := Tryz.func267.trans (congrArg some (by kernel_rfl))
  f257 := Tryz.func270.trans (congrArg some (by kernel_rfl))
  f294 := Tryz.func280.trans (congrArg some (by kernel_rfl))
  f295 := Tryz.func281.trans (congrArg some (by kernel_rfl))
  f296 := Tryz.func282.trans (congrArg some (by kernel_rfl))
  f297 := Tryz.func283.trans (congrArg some (by kernel_rfl))
  f298 := Tryz.func284.trans (congrArg some (by kernel_rfl))
  f299 := Tryz.func285.trans (congrArg some (by kernel_rfl))
  f300 := Tryz.func286.trans (congrArg some (by kernel_rfl))
  f301 := Tryz.func287.trans (congrArg some (by kernel_rfl))
  f328 := Tryz.func291.trans (congrArg some (by kernel_rfl))
  f329 := Tryz.func292.trans (congrArg some (by kernel_rfl))
  f330 := Tryz.func293.trans (congrArg some (by kernel_rfl))
  f331 := Tryz.func294.trans (congrArg some (by kernel_rfl))
  f332 := Tryz.func295.trans (congrArg some (by kernel_rfl))
  f343 := Tryz.func296.trans (congrArg some (by kernel_rfl))
  t0 := Tryz.underlying0
  a0 := Tryz.isAgg0
  z0 := Tryz.sizeOf0
  v0 := Tryz.zeroValue0
  t3 := Tryz.underlying3
  a3 := Tryz.isAgg3
  z3 := Tryz.sizeOf3
  v3 := Tryz.zeroValue3
  t4 := Tryz.underlying4
  a4 := Tryz.isAgg4
  z4 := Tryz.sizeOf4
  v4 := Tryz.zeroValue4
  t5 := Tryz.underlying5
  a5 := Tryz.isAgg5
  z5 := Tryz.sizeOf5
  v5 := Tryz.zeroValue5
  t9 := Tryz.underlying9
  a9 := Tryz.isAgg9
  z9 := Tryz.sizeOf9
  v9 := Tryz.zeroValue9
  t28 := Tryz.underlying22
  a28 := Tryz.isAgg22
  z28 := Tryz.sizeOf22
  v28 := Tryz.zeroValue22
  t46 := Tryz.underlying178
  a46 := Tryz.isAgg178
  z46 := Tryz.sizeOf178
  v46 := Tryz.zeroValue178
  t51 := Tryz.underlying269
  a51 := Tryz.isAgg269
  z51 := Tryz.sizeOf269
  v51 := Tryz.zeroValue269
  t53 := Tryz.underlying271
  a53 := Tryz.isAgg271
  z53 := Tryz.sizeOf271
  v53 := Tryz.zeroValue271
  t131 := Tryz.underlying143
  a131 := Tryz.isAgg143
  z131 := Tryz.sizeOf143
  v131 := Tryz.zeroValue143
  t182 := Tryz.underlying263
  a182 := Tryz.isAgg263
  z182 := Tryz.sizeOf263
  v182 := Tryz.zeroValue263
  t183 := Tryz.underlying264
  a183 := Tryz.isAgg264
  z183 := Tryz.sizeOf264
  v183 := Tryz.zeroValue264
  t218 := Tryz.underlying273
  a218 := Tryz.isAgg273
  z218 := Tryz.sizeOf273
  v218 := Tryz.zeroValue273
  t222 := Tryz.underlying277
  a222 := Tryz.isAgg277
  z222 := Tryz.sizeOf277
  v222 := Tryz.zeroValue277
  t228 := Tryz.underlying279
  a228 := Tryz.isAgg279
  z228 := Tryz.sizeOf279
  v228 := Tryz.zeroValue279
  t229 := Tryz.underlying176
  a229 := Tryz.isAgg176
  z229 := Tryz.sizeOf176
  v229 := Tryz.zeroValue176 }
end Go.Proofs
