/-
  The arguments of the laws about kinds, as things.
-/
import Derived.Test.YtoohgkkmdnbnfaaGreatDoorCards
import Derived.Test.YtoohgkkmdnbnfaaGreatDoorLibND
import Derived.LaidMore
import Derived.Stop.Joined
set_option linter.all false
set_option maxHeartbeats 1000000
namespace Go.Proofs.YtoohgkkmdnbnfaaGreatDoor
open Go.Ideal Go.ChangeShapes Go.WideShapes Go.ChangeAt Go.RowKit Kd Canon Gph
theorem own:ownKnob Tryz.prog.godebug=none:=by kernel_rfl
theorem kids:Kids Tryz.prog (·<Tryz.prog.types.size):=kids_rows (by kernel_rfl) (by kernel_rfl)
theorem full:∀t e,t<Tryz.prog.types.size->Tryz.prog.underlying t=some (.slice e)->0<Tryz.prog.cellsOf e:=slices_full_of Tryz.prog (by kernel_rfl)
def Ak:List TypeId:=[34,37,22,3,28,30,31,32,9,69,23,84,24,143,25,115,26,71,35,59,51,49,68]
theorem ahJ:∀t,t∈Ak->PlainT Tryz.prog (·∈Ak) t:=ZG (by kernel_rfl)
theorem small:∀t,t∈Ak->t<Tryz.prog.types.size:=λt ht=>by
 have h:200<Tryz.prog.types.size:=jT (by kernel_rfl);have h2:∀t∈Ak,Nat.ble t 200=true:=by decide
 exact Nat.lt_of_le_of_lt (jT (h2 t ht)) h
theorem ahK:jO Tryz.prog 34=true:=by kernel_rfl
theorem ahL:jO Tryz.prog 37=true:=by kernel_rfl
theorem kZ:jk Tryz.prog 3 aa j3:=aaQ Tryz.underlying3
theorem wP:jk Tryz.prog 9 aT (λ_=>True):=aaR Tryz.underlying9
theorem E5:jk Tryz.prog 22 (aj aa) (oK j3):=vU Tryz.underlying22 (by kernel_rfl) kZ
theorem Vx:jk Tryz.prog 69 (aj aT) (oK λ_=>True):=vU Tryz.underlying69 (by kernel_rfl) wP
theorem NT:jk Tryz.prog 31 (aj (aj aa)) (oK (oK j3)):=vU Tryz.underlying31 (by kernel_rfl) E5
theorem ahM:jk Tryz.prog 32 (aj (aj (aj aa))) (oK (oK (oK j3))):=vU Tryz.underlying32 (by kernel_rfl) NT
set_option maxRecDepth 100000 in
theorem ahN:jk Tryz.prog 84 fq (λ_=>True):=
 (vV Tryz.underlying84 (by kernel_rfl) (by kernel_rfl) (.cons wP (by kernel_rfl) (.cons kZ (by kernel_rfl) .nil))).conv (λa y hG=>⟨⟨a.1,a.2.1⟩,(),rfl,rfl,trivial⟩)
def NU(r:lX):Prop:=r.lists.length<9223372036854775808/\∀l∈r.lists,l.length<9223372036854775808
set_option maxRecDepth 100000 in
theorem ahO:jk Tryz.prog 143 eG NU:=
 (vV Tryz.underlying143 (by kernel_rfl) (by kernel_rfl) (.cons wP (by kernel_rfl) (.cons NT (by kernel_rfl) .nil))).conv (λa y hG=>⟨⟨a.1,a.2.1⟩,y.2.1,rfl,rfl,⟨hG.2.1.1,λl hl=>(hG.2.1.2 l hl).1⟩⟩)
set_option maxRecDepth 100000 in
theorem kU:jk Tryz.prog 115 bM (λ_=>True):=
 (vV Tryz.underlying115 (by kernel_rfl) (by kernel_rfl) (.cons wP (by kernel_rfl) (.cons wP (by kernel_rfl) (.cons kZ (by kernel_rfl) (.cons kZ (by kernel_rfl) (.cons kZ (by kernel_rfl) (.cons kZ (by kernel_rfl) .nil))))))).conv
   (λa y hG=>⟨⟨a.1,a.2.1,a.2.2.1,a.2.2.2.1,a.2.2.2.2.1,a.2.2.2.2.2.1⟩,(),rfl,rfl,trivial⟩)
def NV(r:aQ):Prop:=r.names.length<9223372036854775808/\r.others.length<9223372036854775808
set_option maxRecDepth 100000 in
theorem lY:jk Tryz.prog 71 aY NV:=
 (vV Tryz.underlying71 (by kernel_rfl) (by kernel_rfl) (.cons wP (by kernel_rfl) (.cons wP (by kernel_rfl) (.cons kZ (by kernel_rfl) (.cons kZ (by kernel_rfl) (.cons Vx (by kernel_rfl) (.cons Vx (by kernel_rfl)
   (.cons kZ (by kernel_rfl) (.cons kZ (by kernel_rfl) (.cons kZ (by kernel_rfl) (.cons kZ (by kernel_rfl) (.cons wP (by kernel_rfl) (.cons kZ (by kernel_rfl) .nil))))))))))))).conv
   (λa y hG=>⟨⟨a.1,a.2.1,a.2.2.1,a.2.2.2.1,a.2.2.2.2.1,a.2.2.2.2.2.1,a.2.2.2.2.2.2.1,a.2.2.2.2.2.2.2.1,a.2.2.2.2.2.2.2.2.1,a.2.2.2.2.2.2.2.2.2.1,a.2.2.2.2.2.2.2.2.2.2.1,a.2.2.2.2.2.2.2.2.2.2.2.1⟩,(y.2.2.2.2.1,y.2.2.2.2.2.1),rfl,rfl,⟨hG.2.2.2.2.1.1,hG.2.2.2.2.2.1.1⟩⟩)
theorem ahP:jk Tryz.prog 23 (aj fq) (oK λ_=>True):=vU Tryz.underlying23 (by kernel_rfl) ahN
theorem ahQ:jk Tryz.prog 24 (aj eG) (oK NU):=vU Tryz.underlying24 (by kernel_rfl) ahO
theorem ahR:jk Tryz.prog 25 (aj bM) (oK λ_=>True):=vU Tryz.underlying25 (by kernel_rfl) kU
theorem ahS:jk Tryz.prog 26 (aj aY) (oK NV):=vU Tryz.underlying26 (by kernel_rfl) lY
structure ahT(d:bF):Prop where
 w:j3 d.w
 h:j3 d.h
 holes:d.holes.length<9223372036854775808
 dO:d.symbols.length<9223372036854775808
 regs:oK NU d.regions
 jm:d.aJ.length<9223372036854775808
 kz:oK NV d.rules
def ahU:Enc bF:=⟨10,Value×Value×Value×Value×Value,λd y=>gD d y.1 y.2.1 y.2.2.1 y.2.2.2.1 y.2.2.2.2,λd y=>kM d y.1 y.2.1 y.2.2.1 y.2.2.2.1 y.2.2.2.2,λ_ _=>rfl⟩
set_option maxRecDepth 100000 in
theorem ahV:jk Tryz.prog 28 ahU ahT:=
 (vV Tryz.underlying28 (by kernel_rfl) (by kernel_rfl) (.cons wP (by kernel_rfl) (.cons kZ (by kernel_rfl) (.cons kZ (by kernel_rfl) (.cons kZ (by kernel_rfl) (.cons kZ (by kernel_rfl) (.cons E5 (by kernel_rfl)
   (.cons ahP (by kernel_rfl) (.cons ahQ (by kernel_rfl) (.cons ahR (by kernel_rfl) (.cons ahS (by kernel_rfl) .nil))))))))))).conv
   (λa y hG=>⟨⟨a.1,a.2.1,a.2.2.1,a.2.2.2.1,a.2.2.2.2.1,a.2.2.2.2.2.1,a.2.2.2.2.2.2.1,a.2.2.2.2.2.2.2.1,a.2.2.2.2.2.2.2.2.1,a.2.2.2.2.2.2.2.2.2.1⟩,(y.2.2.2.2.2.1,y.2.2.2.2.2.2.1,y.2.2.2.2.2.2.2.1,y.2.2.2.2.2.2.2.2.1,y.2.2.2.2.2.2.2.2.2.1),rfl,rfl,
     ⟨hG.2.2.2.1,hG.2.2.2.2.1,hG.2.2.2.2.2.1.1,hG.2.2.2.2.2.2.1.1,hG.2.2.2.2.2.2.2.1,hG.2.2.2.2.2.2.2.2.1.1,hG.2.2.2.2.2.2.2.2.2.1⟩⟩)
structure ahW(g:bC):Prop where
 w:j3 g.w
 h:j3 g.h
 holes:g.holes.length<9223372036854775808
 cells:g.cells.length<9223372036854775808
def ahX:Enc bC:=⟨5,Value×Value,λg y=>iO g y.1 y.2,λg y=>jq g y.1 y.2,λ_ _=>rfl⟩
set_option maxRecDepth 100000 in
theorem ahY:jk Tryz.prog 30 ahX ahW:=
 (vV Tryz.underlying30 (by kernel_rfl) (by kernel_rfl) (.cons kZ (by kernel_rfl) (.cons kZ (by kernel_rfl) (.cons kZ (by kernel_rfl) (.cons E5 (by kernel_rfl) (.cons E5 (by kernel_rfl) .nil)))))).conv
   (λa y hG=>⟨⟨a.1,a.2.1,a.2.2.1,a.2.2.2.1,a.2.2.2.2.1⟩,(y.2.2.2.1,y.2.2.2.2.1),rfl,rfl,⟨hG.2.1,hG.2.2.1,hG.2.2.2.1.1,hG.2.2.2.2.1.1⟩⟩)
abbrev KV:=Value×Value×Value×Value×Value×Value×Value×Value×Value
def ahZ:Enc bS:=⟨17,KV,λk y=>kD k y.1 y.2.1 y.2.2.1 y.2.2.2.1 y.2.2.2.2.1 y.2.2.2.2.2.1 y.2.2.2.2.2.2.1 y.2.2.2.2.2.2.2.1 y.2.2.2.2.2.2.2.2,λk y=>kX k y.1 y.2.1 y.2.2.1 y.2.2.2.1 y.2.2.2.2.1 y.2.2.2.2.2.1 y.2.2.2.2.2.2.1 y.2.2.2.2.2.2.2.1 y.2.2.2.2.2.2.2.2 [],λ_ _=>rfl⟩
set_option maxRecDepth 100000 in
theorem ah0:jk Tryz.prog 34 ahZ Cg:=
 (vV Tryz.underlying34 (by kernel_rfl) (by kernel_rfl) (.cons ahV (by kernel_rfl) (.cons ahY (by kernel_rfl) (.cons NT (by kernel_rfl) (.cons ahM (by kernel_rfl) .nil))))).conv
   (λa y hG=>⟨⟨a.1,a.2.1,a.2.2.1,a.2.2.2.1⟩,(y.1.1,y.1.2.1,y.1.2.2.1,y.1.2.2.2.1,y.1.2.2.2.2,y.2.1.1,y.2.1.2,y.2.2.1,y.2.2.2.1),rfl,rfl,
     ⟨hG.1.w,hG.1.h,hG.2.1.w,hG.2.1.h,hG.1.holes,hG.1.dO,hG.1.regs.1,hG.1.regs.2,hG.1.jm,hG.1.kz.1,hG.1.kz.2,hG.2.1.holes,hG.2.1.cells,⟨hG.2.2.1.1,λl hl=>(hG.2.2.1.2 l hl).1⟩,
      ⟨hG.2.2.2.1.1,λl hl=>⟨(hG.2.2.2.1.2 l hl).1,λm hm=>((hG.2.2.2.1.2 l hl).2 m hm).1⟩⟩⟩⟩)
def Vy(g:Clue):Prop:=g.values.length<9223372036854775808
set_option maxRecDepth 100000 in
theorem ah1:jk Tryz.prog 59 iV Vy:=
 (vV Tryz.underlying59 (by kernel_rfl) (by kernel_rfl) (.cons kZ (by kernel_rfl) (.cons kZ (by kernel_rfl) (.cons E5 (by kernel_rfl) .nil)))).conv (λa y hG=>⟨⟨a.1,a.2.1,a.2.2.1⟩,y.2.2.1,rfl,rfl,hG.2.2.1.1⟩)
theorem ah2:jk Tryz.prog 35 (aj iV) (oK Vy):=vU Tryz.underlying35 (by kernel_rfl) ah1
set_option maxRecDepth 100000 in
theorem ah3:jk Tryz.prog 37 (aj iV) yF:=
 (vV Tryz.underlying37 (by kernel_rfl) (by kernel_rfl) (.cons ah2 (by kernel_rfl) .nil)).conv (λa y hG=>⟨a.1,y.1,rfl,rfl,⟨hG.1.1,hG.1.2⟩⟩)
set_option maxRecDepth 100000 in
theorem ah4(os:Os)(args:Array Value):laidMetH Tryz.prog Rows.puzzlesSpecRow.laid ((World.doorLaid Tryz.prog 4000 os).forCall (λ_ _=>0) ⟨#[],args,[]⟩).memory:=
 laidMetH_of_parts3 (fuel:=8) (laidMet_of_run' 8 (by kernel_rfl) (by kernel_rfl)) (by kernel_rfl) (by kernel_rfl)
