/-
  The arguments of the laws about kinds, as things.
-/
import Derived.Test.YtpkieeggilkagaaGreatLibP
import Derived.Test.YtpkieeggilkagaaGreatIdealM
import Derived.ProofKit
set_option linter.unusedSimpArgs false
set_option linter.unusedVariables false
set_option maxHeartbeats 1000000
namespace Go.Proofs.YtpkieeggilkagaaGreat
open Go.Ideal Go.ChangeShapes Go.WideShapes Go.ChangeAt Go.RowKit Kd Canon
theorem zU5:ownKnob Tryz.prog.godebug=none:=by kernel_rfl
theorem zSf:Kids Tryz.prog (·<Tryz.prog.types.size):=kids_rows (by kernel_rfl) (by kernel_rfl)
theorem zTV:∀t e,t<Tryz.prog.types.size→Tryz.prog.underlying t=some (.slice e)→0<Tryz.prog.cellsOf e:=slices_full_of Tryz.prog (by kernel_rfl)
def kPlain:List TypeId:=[34,37,22,3,28,30,31,32,9,69,23,96,24,112,25,110,26,71,35,74]
theorem zLx:∀t,t∈kPlain→PlainT Tryz.prog (·∈kPlain) t:=zPB (by kernel_rfl)
theorem kSmall:∀t,t∈kPlain→t<Tryz.prog.types.size:=fun t ht=>by
 have h:200<Tryz.prog.types.size:=Nat.le_of_ble_eq_true (by kernel_rfl);have h2:∀t∈kPlain,Nat.ble t 200=true:=by decide
 exact Nat.lt_of_le_of_lt (Nat.le_of_ble_eq_true (h2 t ht)) h
theorem zU3:zp Tryz.prog 34=true:=by kernel_rfl
theorem zSH:zp Tryz.prog 37=true:=by kernel_rfl
theorem zSv:zp Tryz.prog 22=false:=by kernel_rfl
theorem zTS:zp Tryz.prog 3=false:=by kernel_rfl
theorem zFO:zCw Tryz.prog 3 intE I64:=zPC Tryz.underlying3
theorem zPX:zCw Tryz.prog 9 zC0 (fun _=>True):=zOr Tryz.underlying9
theorem zIf:zCw Tryz.prog 22 (slE intE) (SlG I64):=zAF Tryz.underlying22 (by kernel_rfl) zFO
theorem zTU:zCw Tryz.prog 69 (slE zC0) (SlG fun _=>True):=zAF Tryz.underlying69 (by kernel_rfl) zPX
theorem zNb:zCw Tryz.prog 31 (slE (slE intE)) (SlG (SlG I64)):=zAF Tryz.underlying31 (by kernel_rfl) zIf
theorem zQm:zCw Tryz.prog 32 (slE (slE (slE intE))) (SlG (SlG (SlG I64))):=zAF Tryz.underlying32 (by kernel_rfl) zNb
set_option maxRecDepth 100000 in
theorem zVD:zCw Tryz.prog 96 zET (fun _=>True):=
 (zu Tryz.underlying96 (by kernel_rfl) (by kernel_rfl) (.cons zPX (by kernel_rfl) (.cons zFO (by kernel_rfl) .nil))).conv (fun a y hG=>⟨⟨a.1,a.2.1⟩,(),rfl,rfl,trivial⟩)
def zUI(r:Reg):Prop:=r.lists.length<9223372036854775808∧∀l∈r.lists,l.length<9223372036854775808
set_option maxRecDepth 100000 in
theorem zVH:zCw Tryz.prog 112 zEk zUI:=
 (zu Tryz.underlying112 (by kernel_rfl) (by kernel_rfl) (.cons zPX (by kernel_rfl) (.cons zNb (by kernel_rfl) .nil))).conv (fun a y hG=>⟨⟨a.1,a.2.1⟩,y.2.1,rfl,rfl,⟨hG.2.1.1,fun l hl=>(hG.2.1.2 l hl).1⟩⟩)
set_option maxRecDepth 100000 in
theorem zR6:zCw Tryz.prog 110 zAS (fun _=>True):=
 (zu Tryz.underlying110 (by kernel_rfl) (by kernel_rfl) (.cons zPX (by kernel_rfl) (.cons zPX (by kernel_rfl) (.cons zFO (by kernel_rfl) (.cons zFO (by kernel_rfl) (.cons zFO (by kernel_rfl) (.cons zFO (by kernel_rfl) .nil))))))).conv
   (fun a y hG=>⟨⟨a.1,a.2.1,a.2.2.1,a.2.2.2.1,a.2.2.2.2.1,a.2.2.2.2.2.1⟩,(),rfl,rfl,trivial⟩)
def zUN(r:Rul):Prop:=r.names.length<9223372036854775808∧r.others.length<9223372036854775808
set_option maxRecDepth 100000 in
theorem zMI:zCw Tryz.prog 71 zn zUN:=
 (zu Tryz.underlying71 (by kernel_rfl) (by kernel_rfl) (.cons zPX (by kernel_rfl) (.cons zPX (by kernel_rfl) (.cons zFO (by kernel_rfl) (.cons zFO (by kernel_rfl) (.cons zTU (by kernel_rfl) (.cons zTU (by kernel_rfl)
   (.cons zFO (by kernel_rfl) (.cons zFO (by kernel_rfl) (.cons zFO (by kernel_rfl) (.cons zFO (by kernel_rfl) (.cons zPX (by kernel_rfl) (.cons zFO (by kernel_rfl) .nil))))))))))))).conv
   (fun a y hG=>⟨⟨a.1,a.2.1,a.2.2.1,a.2.2.2.1,a.2.2.2.2.1,a.2.2.2.2.2.1,a.2.2.2.2.2.2.1,a.2.2.2.2.2.2.2.1,a.2.2.2.2.2.2.2.2.1,a.2.2.2.2.2.2.2.2.2.1,a.2.2.2.2.2.2.2.2.2.2.1,a.2.2.2.2.2.2.2.2.2.2.2.1⟩,(y.2.2.2.2.1,y.2.2.2.2.2.1),rfl,rfl,⟨hG.2.2.2.2.1.1,hG.2.2.2.2.2.1.1⟩⟩)
theorem zTo:zCw Tryz.prog 23 (slE zET) (SlG fun _=>True):=zAF Tryz.underlying23 (by kernel_rfl) zVD
theorem zUH:zCw Tryz.prog 24 (slE zEk) (SlG zUI):=zAF Tryz.underlying24 (by kernel_rfl) zVH
theorem zUU:zCw Tryz.prog 25 (slE zAS) (SlG fun _=>True):=zAF Tryz.underlying25 (by kernel_rfl) zR6
theorem zUa:zCw Tryz.prog 26 (slE zn) (SlG zUN):=zAF Tryz.underlying26 (by kernel_rfl) zMI
structure zU9(d:Dcl):Prop where
 w:I64 d.w
 h:I64 d.h
 holes:d.holes.length<9223372036854775808
 syms:d.symbols.length<9223372036854775808
 regs:SlG zUI d.regions
 clus:d.clues.length<9223372036854775808
 ruls:SlG zUN d.rules
def zU6:Enc Dcl:=⟨10,Value×Value×Value×Value×Value,fun d y=>zGB d y.1 y.2.1 y.2.2.1 y.2.2.2.1 y.2.2.2.2,fun d y=>zLE d y.1 y.2.1 y.2.2.1 y.2.2.2.1 y.2.2.2.2,fun _ _=>rfl⟩
set_option maxRecDepth 100000 in
theorem zVJ:zCw Tryz.prog 28 zU6 zU9:=
 (zu Tryz.underlying28 (by kernel_rfl) (by kernel_rfl) (.cons zPX (by kernel_rfl) (.cons zFO (by kernel_rfl) (.cons zFO (by kernel_rfl) (.cons zFO (by kernel_rfl) (.cons zFO (by kernel_rfl) (.cons zIf (by kernel_rfl)
   (.cons zTo (by kernel_rfl) (.cons zUH (by kernel_rfl) (.cons zUU (by kernel_rfl) (.cons zUa (by kernel_rfl) .nil))))))))))).conv
   (fun a y hG=>⟨⟨a.1,a.2.1,a.2.2.1,a.2.2.2.1,a.2.2.2.2.1,a.2.2.2.2.2.1,a.2.2.2.2.2.2.1,a.2.2.2.2.2.2.2.1,a.2.2.2.2.2.2.2.2.1,a.2.2.2.2.2.2.2.2.2.1⟩,(y.2.2.2.2.2.1,y.2.2.2.2.2.2.1,y.2.2.2.2.2.2.2.1,y.2.2.2.2.2.2.2.2.1,y.2.2.2.2.2.2.2.2.2.1),rfl,rfl,
     ⟨hG.2.2.2.1,hG.2.2.2.2.1,hG.2.2.2.2.2.1.1,hG.2.2.2.2.2.2.1.1,hG.2.2.2.2.2.2.2.1,hG.2.2.2.2.2.2.2.2.1.1,hG.2.2.2.2.2.2.2.2.2.1⟩⟩)
structure zVL(g:Grd):Prop where
 w:I64 g.w
 h:I64 g.h
 holes:g.holes.length<9223372036854775808
 cells:g.cells.length<9223372036854775808
def zVC:Enc Grd:=⟨5,Value×Value,fun g y=>zH2 g y.1 y.2,fun g y=>zLA g y.1 y.2,fun _ _=>rfl⟩
set_option maxRecDepth 100000 in
theorem zU7:zCw Tryz.prog 30 zVC zVL:=
 (zu Tryz.underlying30 (by kernel_rfl) (by kernel_rfl) (.cons zFO (by kernel_rfl) (.cons zFO (by kernel_rfl) (.cons zFO (by kernel_rfl) (.cons zIf (by kernel_rfl) (.cons zIf (by kernel_rfl) .nil)))))).conv
   (fun a y hG=>⟨⟨a.1,a.2.1,a.2.2.1,a.2.2.2.1,a.2.2.2.2.1⟩,(y.2.2.2.1,y.2.2.2.2.1),rfl,rfl,⟨hG.2.1,hG.2.2.1,hG.2.2.2.1.1,hG.2.2.2.2.1.1⟩⟩)
abbrev KV:=Value×Value×Value×Value×Value×Value×Value×Value×Value
def zVK:Enc Knd:=⟨17,KV,fun k y=>zFl k y.1 y.2.1 y.2.2.1 y.2.2.2.1 y.2.2.2.2.1 y.2.2.2.2.2.1 y.2.2.2.2.2.2.1 y.2.2.2.2.2.2.2.1 y.2.2.2.2.2.2.2.2,fun k y=>zEs k y.1 y.2.1 y.2.2.1 y.2.2.2.1 y.2.2.2.2.1 y.2.2.2.2.2.1 y.2.2.2.2.2.2.1 y.2.2.2.2.2.2.2.1 y.2.2.2.2.2.2.2.2 [],fun _ _=>rfl⟩
set_option maxRecDepth 100000 in
theorem zUx:zCw Tryz.prog 34 zVK zR8:=
 (zu Tryz.underlying34 (by kernel_rfl) (by kernel_rfl) (.cons zVJ (by kernel_rfl) (.cons zU7 (by kernel_rfl) (.cons zNb (by kernel_rfl) (.cons zQm (by kernel_rfl) .nil))))).conv
   (fun a y hG=>⟨⟨a.1,a.2.1,a.2.2.1,a.2.2.2.1⟩,(y.1.1,y.1.2.1,y.1.2.2.1,y.1.2.2.2.1,y.1.2.2.2.2,y.2.1.1,y.2.1.2,y.2.2.1,y.2.2.2.1),rfl,rfl,
     ⟨hG.1.w,hG.1.h,hG.2.1.w,hG.2.1.h,hG.1.holes,hG.1.syms,hG.1.regs.1,hG.1.regs.2,hG.1.clus,hG.1.ruls.1,hG.1.ruls.2,hG.2.1.holes,hG.2.1.cells,⟨hG.2.2.1.1,fun l hl=>(hG.2.2.1.2 l hl).1⟩,
      ⟨hG.2.2.2.1.1,fun l hl=>⟨(hG.2.2.2.1.2 l hl).1,fun m hm=>((hG.2.2.2.1.2 l hl).2 m hm).1⟩⟩⟩⟩)
def zUq(g:zm):Prop:=g.values.length<9223372036854775808
set_option maxRecDepth 100000 in
theorem zVF:zCw Tryz.prog 74 gvnE zUq:=
 (zu Tryz.underlying74 (by kernel_rfl) (by kernel_rfl) (.cons zFO (by kernel_rfl) (.cons zFO (by kernel_rfl) (.cons zIf (by kernel_rfl) .nil)))).conv (fun a y hG=>⟨⟨a.1,a.2.1,a.2.2.1⟩,y.2.2.1,rfl,rfl,hG.2.2.1.1⟩)
theorem zUG:zCw Tryz.prog 35 (slE gvnE) (SlG zUq):=zAF Tryz.underlying35 (by kernel_rfl) zVF
set_option maxRecDepth 100000 in
theorem zUz:zCw Tryz.prog 37 (slE gvnE) zLH:=
 (zu Tryz.underlying37 (by kernel_rfl) (by kernel_rfl) (.cons zUG (by kernel_rfl) .nil)).conv (fun a y hG=>⟨a.1,y.1,rfl,rfl,⟨hG.1.1,hG.1.2⟩⟩)
end Go.Proofs.YtpkieeggilkagaaGreat
