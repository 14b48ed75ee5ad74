/-
  The shelf's contracts at this dump, in plain words (relay.py).
-/
import Derived.Shelf.SlSortCmp.NoneTotal
import Derived.Shelf.Sort.Plain
import Derived.Shelf.SlGeneric
import Derived.Ground.SlsfProg
import Derived.Ground.NamesProg
import Derived.Test.YtoilpafpgndilaaGreatProg
namespace Go.Proofs
open Go.Shelf Tryz
def Tryz.laysF6_ren : Go.Shelf.Ren := ⟨fun | 6 => 98 | 15 => 129 | 14 => 128 | 28 => 172 | 29 => 173 | 20 => 164 | 21 => 165 | 22 => 166 | 23 => 167 | 24 => 168 | 25 => 169 | 26 => 170 | 27 => 171 | 46 => 254 | 47 => 255 | 48 => 256 | 49 => 257 | 50 => 258 | 57 => 333 | n => n, fun | 22 => 22 | 24 => 76 | 25 => 78 | 3 => 3 | 39 => 180 | 0 => 0 | 53 => 221 | 55 => 223 | 4 => 4 | 46 => 214 | 45 => 213 | 50 => 218 | 5 => 5 | 9 => 9 | 66 => 289 | 70 => 293 | 76 => 356 | 77 => 357 | n => n, fun | n => n⟩
theorem Tryz.laysF6 : Go.Proofs.SlLaysF0.n6 Tryz.prog Tryz.laysF6_ren := {
 mixed:=by kernel_rfl
 f6:=⟨f98.name, by decide, func98.trans (congrArg some (by kernel_rfl))⟩
 f14:=⟨f128.name, by decide, func128.trans (congrArg some (by kernel_rfl))⟩
 f15:=func129.trans (congrArg some (by kernel_rfl))
 f20:=⟨f164.name, by decide, func164.trans (congrArg some (by kernel_rfl))⟩
 f21:=⟨f165.name, by decide, func165.trans (congrArg some (by kernel_rfl))⟩
 f22:=⟨f166.name, by decide, func166.trans (congrArg some (by kernel_rfl))⟩
 f23:=⟨f167.name, by decide, func167.trans (congrArg some (by kernel_rfl))⟩
 f24:=⟨f168.name, by decide, func168.trans (congrArg some (by kernel_rfl))⟩
 f25:=⟨f169.name, by decide, func169.trans (congrArg some (by kernel_rfl))⟩
 f26:=⟨f170.name, by decide, func170.trans (congrArg some (by kernel_rfl))⟩
 f27:=⟨f171.name, by decide, func171.trans (congrArg some (by kernel_rfl))⟩
 f28:=func172.trans (congrArg some (by kernel_rfl))
 f29:=func173.trans (congrArg some (by kernel_rfl))
 f46:=⟨f254.name, by decide, func254.trans (congrArg some (by kernel_rfl))⟩
 f47:=func255.trans (congrArg some (by kernel_rfl))
 f48:=func256.trans (congrArg some (by kernel_rfl))
 f49:=⟨f257.name, by decide, func257.trans (congrArg some (by kernel_rfl))⟩
 f50:=⟨f258.name, by decide, func258.trans (congrArg some (by kernel_rfl))⟩
 f57:=⟨f333.name, by decide, func333.trans (congrArg some (by kernel_rfl))⟩
 t0:=underlying0
 a0:=isAgg0
 z0:=sizeOf0
 v0:=zeroValue0
 t3:=underlying3
 a3:=isAgg3
 z3:=sizeOf3
 v3:=zeroValue3
 t4:=underlying4
 a4:=isAgg4
 z4:=sizeOf4
 v4:=zeroValue4
 t5:=underlying5
 a5:=isAgg5
 z5:=sizeOf5
 v5:=zeroValue5
 t9:=underlying9
 a9:=isAgg9
 z9:=sizeOf9
 v9:=zeroValue9
 t22:=underlying22
 a22:=isAgg22
 z22:=sizeOf22
 v22:=zeroValue22
 t25:=underlying78
 a25:=isAgg78
 z25:=sizeOf78
 v25:=zeroValue78
 t39:=underlying180
 a39:=isAgg180
 z39:=sizeOf180
 v39:=zeroValue180
 t45:=underlying213
 a45:=isAgg213
 z45:=sizeOf213
 v45:=zeroValue213
 t46:=underlying214
 a46:=isAgg214
 z46:=sizeOf214
 v46:=zeroValue214
 t50:=underlying218
 a50:=isAgg218
 z50:=sizeOf218
 v50:=zeroValue218
 t53:=underlying221
 a53:=isAgg221
 z53:=sizeOf221
 v53:=zeroValue221
 t55:=underlying223
 a55:=isAgg223
 z55:=sizeOf223
 v55:=zeroValue223
 t66:=underlying289
 a66:=isAgg289
 z66:=sizeOf289
 v66:=zeroValue289
 t70:=underlying293
 a70:=isAgg293
 z70:=sizeOf293
 v70:=zeroValue293
 t76:=underlying356
 a76:=isAgg356
 z76:=sizeOf356
 v76:=zeroValue356
 t77:=underlying357
 a77:=isAgg357
 z77:=sizeOf357
 v77:=zeroValue357 }
end Go.Proofs
