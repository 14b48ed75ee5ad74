/-
  The arguments of the laws about kinds, as things.
-/
import Derived.Test.YtpkieeggilkagaaGreatLibP
import Derived.Test.YtpkieeggilkagaaGreatIdealM
import Derived.ProofKit
set_option linter.unusedSimpArgs false
set_option linter.unusedVariables false
set_option maxHeartbeats 1000000
namespace Go.Proofs.YtpkieeggilkagaaGreat
open Go.Ideal Go.ChangeShapes Go.WideShapes Go.ChangeAt Go.RowKit Kd Canon
theorem zTG : ownKnob Tryz.prog.godebug = none := by kernel_rfl
theorem zSZ : Kids Tryz.prog (· < Tryz.prog.types.size) := kids_rows (by kernel_rfl) (by kernel_rfl)
theorem zR6 : ∀ t e, t < Tryz.prog.types.size → Tryz.prog.underlying t = some (.slice e) → 0 < Tryz.prog.cellsOf e := slices_full_of Tryz.prog (by kernel_rfl)
def kPlain : List TypeId := [34, 37, 22, 3, 28, 30, 31, 32, 9, 69, 23, 96, 24, 112, 25, 110, 26, 71, 35, 74]
theorem zO7 : ∀ t, t ∈ kPlain → PlainT Tryz.prog (· ∈ kPlain) t := zMc (by kernel_rfl)
theorem kSmall : ∀ t, t ∈ kPlain → t < Tryz.prog.types.size := fun t ht => by
 have h : 200 < Tryz.prog.types.size := Nat.le_of_ble_eq_true (by kernel_rfl)
 have h2 : ∀ t ∈ kPlain, Nat.ble t 200 = true := by decide
 exact Nat.lt_of_le_of_lt (Nat.le_of_ble_eq_true (h2 t ht)) h
theorem zTP : zj Tryz.prog 34 = true := by kernel_rfl
theorem zSf : zj Tryz.prog 37 = true := by kernel_rfl
theorem zR3 : zj Tryz.prog 22 = false := by kernel_rfl
theorem zQz : zj Tryz.prog 3 = false := by kernel_rfl
theorem zEC : zCX Tryz.prog 3 intE I64 := zNV Tryz.underlying3
theorem zNz : zCX Tryz.prog 9 zCT (fun _ => True) := zNv Tryz.underlying9
theorem zJR : zCX Tryz.prog 22 (slE intE) (SlG I64) := zAC Tryz.underlying22 (by kernel_rfl) zEC
theorem zQ6 : zCX Tryz.prog 69 (slE zCT) (SlG fun _ => True) := zAC Tryz.underlying69 (by kernel_rfl) zNz
theorem zKH : zCX Tryz.prog 31 (slE (slE intE)) (SlG (SlG I64)) := zAC Tryz.underlying31 (by kernel_rfl) zJR
theorem zPY : zCX Tryz.prog 32 (slE (slE (slE intE))) (SlG (SlG (SlG I64))) := zAC Tryz.underlying32 (by kernel_rfl) zKH
set_option maxRecDepth 100000 in
theorem zTL : zCX Tryz.prog 96 zD3 (fun _ => True) :=
 (zp Tryz.underlying96 (by kernel_rfl) (by kernel_rfl) (.cons zNz (by kernel_rfl) (.cons zEC (by kernel_rfl) .nil))).conv (fun a y hG => ⟨⟨a.1, a.2.1⟩, (), rfl, rfl, trivial⟩)
def zST (r : Reg) : Prop := r.lists.length < 9223372036854775808 ∧ ∀ l ∈ r.lists, l.length < 9223372036854775808
set_option maxRecDepth 100000 in
theorem zTF : zCX Tryz.prog 112 zD1 zST :=
 (zp Tryz.underlying112 (by kernel_rfl) (by kernel_rfl) (.cons zNz (by kernel_rfl) (.cons zKH (by kernel_rfl) .nil))).conv (fun a y hG => ⟨⟨a.1, a.2.1⟩, y.2.1, rfl, rfl, ⟨hG.2.1.1, fun l hl => (hG.2.1.2 l hl).1⟩⟩)
set_option maxRecDepth 100000 in
theorem zQV : zCX Tryz.prog 110 zAK (fun _ => True) :=
 (zp Tryz.underlying110 (by kernel_rfl) (by kernel_rfl) (.cons zNz (by kernel_rfl) (.cons zNz (by kernel_rfl) (.cons zEC (by kernel_rfl) (.cons zEC (by kernel_rfl) (.cons zEC (by kernel_rfl) (.cons zEC (by kernel_rfl) .nil))))))).conv
   (fun a y hG => ⟨⟨a.1, a.2.1, a.2.2.1, a.2.2.2.1, a.2.2.2.2.1, a.2.2.2.2.2.1⟩, (), rfl, rfl, trivial⟩)
def zSn (r : Rul) : Prop := r.names.length < 9223372036854775808 ∧ r.others.length < 9223372036854775808
set_option maxRecDepth 100000 in
theorem zKs : zCX Tryz.prog 71 zk zSn :=
 (zp Tryz.underlying71 (by kernel_rfl) (by kernel_rfl) (.cons zNz (by kernel_rfl) (.cons zNz (by kernel_rfl) (.cons zEC (by kernel_rfl) (.cons zEC (by kernel_rfl) (.cons zQ6 (by kernel_rfl) (.cons zQ6 (by kernel_rfl)
   (.cons zEC (by kernel_rfl) (.cons zEC (by kernel_rfl) (.cons zEC (by kernel_rfl) (.cons zEC (by kernel_rfl) (.cons zNz (by kernel_rfl) (.cons zEC (by kernel_rfl) .nil))))))))))))).conv
   (fun a y hG => ⟨⟨a.1, a.2.1, a.2.2.1, a.2.2.2.1, a.2.2.2.2.1, a.2.2.2.2.2.1, a.2.2.2.2.2.2.1, a.2.2.2.2.2.2.2.1, a.2.2.2.2.2.2.2.2.1, a.2.2.2.2.2.2.2.2.2.1, a.2.2.2.2.2.2.2.2.2.2.1, a.2.2.2.2.2.2.2.2.2.2.2.1⟩, (y.2.2.2.2.1, y.2.2.2.2.2.1), rfl, rfl, ⟨hG.2.2.2.2.1.1, hG.2.2.2.2.2.1.1⟩⟩)
theorem zSD : zCX Tryz.prog 23 (slE zD3) (SlG fun _ => True) := zAC Tryz.underlying23 (by kernel_rfl) zTL
theorem zSs : zCX Tryz.prog 24 (slE zD1) (SlG zST) := zAC Tryz.underlying24 (by kernel_rfl) zTF
theorem zSA : zCX Tryz.prog 25 (slE zAK) (SlG fun _ => True) := zAC Tryz.underlying25 (by kernel_rfl) zQV
theorem zSd : zCX Tryz.prog 26 (slE zk) (SlG zSn) := zAC Tryz.underlying26 (by kernel_rfl) zKs
structure zTE (d : Dcl) : Prop where
 w : I64 d.w
 h : I64 d.h
 holes : d.holes.length < 9223372036854775808
 syms : d.symbols.length < 9223372036854775808
 regs : SlG zST d.regions
 clus : d.clues.length < 9223372036854775808
 ruls : SlG zSn d.rules
def zTN : Enc Dcl := ⟨10, Value × Value × Value × Value × Value, fun d y => zFT d y.1 y.2.1 y.2.2.1 y.2.2.2.1 y.2.2.2.2, fun d y => zJt d y.1 y.2.1 y.2.2.1 y.2.2.2.1 y.2.2.2.2, fun _ _ => rfl⟩
set_option maxRecDepth 100000 in
theorem zTC : zCX Tryz.prog 28 zTN zTE :=
 (zp Tryz.underlying28 (by kernel_rfl) (by kernel_rfl) (.cons zNz (by kernel_rfl) (.cons zEC (by kernel_rfl) (.cons zEC (by kernel_rfl) (.cons zEC (by kernel_rfl) (.cons zEC (by kernel_rfl) (.cons zJR (by kernel_rfl)
   (.cons zSD (by kernel_rfl) (.cons zSs (by kernel_rfl) (.cons zSA (by kernel_rfl) (.cons zSd (by kernel_rfl) .nil))))))))))).conv
   (fun a y hG => ⟨⟨a.1, a.2.1, a.2.2.1, a.2.2.2.1, a.2.2.2.2.1, a.2.2.2.2.2.1, a.2.2.2.2.2.2.1, a.2.2.2.2.2.2.2.1, a.2.2.2.2.2.2.2.2.1, a.2.2.2.2.2.2.2.2.2.1⟩, (y.2.2.2.2.2.1, y.2.2.2.2.2.2.1, y.2.2.2.2.2.2.2.1, y.2.2.2.2.2.2.2.2.1, y.2.2.2.2.2.2.2.2.2.1), rfl, rfl,
     ⟨hG.2.2.2.1, hG.2.2.2.2.1, hG.2.2.2.2.2.1.1, hG.2.2.2.2.2.2.1.1, hG.2.2.2.2.2.2.2.1, hG.2.2.2.2.2.2.2.2.1.1, hG.2.2.2.2.2.2.2.2.2.1⟩⟩)
structure zTD (g : Grd) : Prop where
 w : I64 g.w
 h : I64 g.h
 holes : g.holes.length < 9223372036854775808
 cells : g.cells.length < 9223372036854775808
def zTK : Enc Grd := ⟨5, Value × Value, fun g y => zGf g y.1 y.2, fun g y => zJj g y.1 y.2, fun _ _ => rfl⟩
set_option maxRecDepth 100000 in
theorem zTU : zCX Tryz.prog 30 zTK zTD :=
 (zp Tryz.underlying30 (by kernel_rfl) (by kernel_rfl) (.cons zEC (by kernel_rfl) (.cons zEC (by kernel_rfl) (.cons zEC (by kernel_rfl) (.cons zJR (by kernel_rfl) (.cons zJR (by kernel_rfl) .nil)))))).conv
   (fun a y hG => ⟨⟨a.1, a.2.1, a.2.2.1, a.2.2.2.1, a.2.2.2.2.1⟩, (y.2.2.2.1, y.2.2.2.2.1), rfl, rfl, ⟨hG.2.1, hG.2.2.1, hG.2.2.2.1.1, hG.2.2.2.2.1.1⟩⟩)
abbrev KV := Value × Value × Value × Value × Value × Value × Value × Value × Value
def zTV : Enc Knd := ⟨17, KV, fun k y => zHe k y.1 y.2.1 y.2.2.1 y.2.2.2.1 y.2.2.2.2.1 y.2.2.2.2.2.1 y.2.2.2.2.2.2.1 y.2.2.2.2.2.2.2.1 y.2.2.2.2.2.2.2.2, fun k y => zGR k y.1 y.2.1 y.2.2.1 y.2.2.2.1 y.2.2.2.2.1 y.2.2.2.2.2.1 y.2.2.2.2.2.2.1 y.2.2.2.2.2.2.2.1 y.2.2.2.2.2.2.2.2 [], fun _ _ => rfl⟩
set_option maxRecDepth 100000 in
theorem zTB : zCX Tryz.prog 34 zTV zRk :=
 (zp Tryz.underlying34 (by kernel_rfl) (by kernel_rfl) (.cons zTC (by kernel_rfl) (.cons zTU (by kernel_rfl) (.cons zKH (by kernel_rfl) (.cons zPY (by kernel_rfl) .nil))))).conv
   (fun a y hG => ⟨⟨a.1, a.2.1, a.2.2.1, a.2.2.2.1⟩, (y.1.1, y.1.2.1, y.1.2.2.1, y.1.2.2.2.1, y.1.2.2.2.2, y.2.1.1, y.2.1.2, y.2.2.1, y.2.2.2.1), rfl, rfl,
     ⟨hG.1.w, hG.1.h, hG.2.1.w, hG.2.1.h, hG.1.holes, hG.1.syms, hG.1.regs.1, hG.1.regs.2, hG.1.clus, hG.1.ruls.1, hG.1.ruls.2, hG.2.1.holes, hG.2.1.cells, ⟨hG.2.2.1.1, fun l hl => (hG.2.2.1.2 l hl).1⟩,
      ⟨hG.2.2.2.1.1, fun l hl => ⟨(hG.2.2.2.1.2 l hl).1, fun m hm => ((hG.2.2.2.1.2 l hl).2 m hm).1⟩⟩⟩⟩)
def zSz (g : zAW) : Prop := g.values.length < 9223372036854775808
set_option maxRecDepth 100000 in
theorem zTJ : zCX Tryz.prog 74 gvnE zSz :=
 (zp Tryz.underlying74 (by kernel_rfl) (by kernel_rfl) (.cons zEC (by kernel_rfl) (.cons zEC (by kernel_rfl) (.cons zJR (by kernel_rfl) .nil)))).conv (fun a y hG => ⟨⟨a.1, a.2.1, a.2.2.1⟩, y.2.2.1, rfl, rfl, hG.2.2.1.1⟩)
theorem zSt : zCX Tryz.prog 35 (slE gvnE) (SlG zSz) := zAC Tryz.underlying35 (by kernel_rfl) zTJ
set_option maxRecDepth 100000 in
theorem zTO : zCX Tryz.prog 37 (slE gvnE) zJv :=
 (zp Tryz.underlying37 (by kernel_rfl) (by kernel_rfl) (.cons zSt (by kernel_rfl) .nil)).conv (fun a y hG => ⟨a.1, y.1, rfl, rfl, ⟨hG.1.1, hG.1.2⟩⟩)
end Go.Proofs.YtpkieeggilkagaaGreat
