/-
  The arguments of the laws about kinds, as things.
-/
import Derived.Test.YtoohgkkmdnbnfaaGreatDoorCards
import Derived.Test.YtoohgkkmdnbnfaaGreatDoorLibNF
import Derived.LaidMore
import Derived.Stop.Joined
set_option linter.all false
set_option maxHeartbeats 1000000
namespace Go.Proofs.YtoohgkkmdnbnfaaGreatDoor
open Go.Ideal Go.ChangeShapes Go.WideShapes Go.ChangeAt Go.RowKit Kd Canon Gph
theorem own:ownKnob Tryz.prog.godebug=none:=by kernel_rfl
theorem kids:Kids Tryz.prog (·<Tryz.prog.types.size):=kids_rows (by kernel_rfl) (by kernel_rfl)
theorem full:∀t e,t<Tryz.prog.types.size->Tryz.prog.underlying t=some (.slice e)->0<Tryz.prog.cellsOf e:=slices_full_of Tryz.prog (by kernel_rfl)
def zZ:List TypeId:=[34,37,22,3,28,30,31,32,9,69,23,84,24,143,25,115,26,71,35,59,51,49,68]
theorem ahf:∀t,t∈zZ->PlainT Tryz.prog (·∈zZ) t:=Zi (by kernel_rfl)
theorem small:∀t,t∈zZ->t<Tryz.prog.types.size:=λt ht=>by
 have h:200<Tryz.prog.types.size:=jN (by kernel_rfl);have h2:∀t∈zZ,Nat.ble t 200=true:=by decide
 exact Nat.lt_of_le_of_lt (jN (h2 t ht)) h
theorem ahg:jK Tryz.prog 34=true:=by kernel_rfl
theorem ahh:jK Tryz.prog 37=true:=by kernel_rfl
theorem kS:jd Tryz.prog 3 aa jU:=aaw Tryz.underlying3
theorem wH:jd Tryz.prog 9 aR (λ_=>True):=aax Tryz.underlying9
theorem EO:jd Tryz.prog 22 (aj aa) (oF jU):=vM Tryz.underlying22 (by kernel_rfl) kS
theorem U6:jd Tryz.prog 69 (aj aR) (oF λ_=>True):=vM Tryz.underlying69 (by kernel_rfl) wH
theorem Nw:jd Tryz.prog 31 (aj (aj aa)) (oF (oF jU)):=vM Tryz.underlying31 (by kernel_rfl) EO
theorem ahi:jd Tryz.prog 32 (aj (aj (aj aa))) (oF (oF (oF jU))):=vM Tryz.underlying32 (by kernel_rfl) Nw
set_option maxRecDepth 100000 in
theorem ahj:jd Tryz.prog 84 fA (λ_=>True):=
 (vN Tryz.underlying84 (by kernel_rfl) (by kernel_rfl) (.cons wH (by kernel_rfl) (.cons kS (by kernel_rfl) .nil))).conv (λa y hG=>⟨⟨a.1,a.2.1⟩,(),rfl,rfl,trivial⟩)
def Ny(r:lS):Prop:=r.lists.length<9223372036854775808/\∀l∈r.lists,l.length<9223372036854775808
set_option maxRecDepth 100000 in
theorem ahk:jd Tryz.prog 143 ed Ny:=
 (vN Tryz.underlying143 (by kernel_rfl) (by kernel_rfl) (.cons wH (by kernel_rfl) (.cons Nw (by kernel_rfl) .nil))).conv (λa y hG=>⟨⟨a.1,a.2.1⟩,y.2.1,rfl,rfl,⟨hG.2.1.1,λl hl=>(hG.2.1.2 l hl).1⟩⟩)
set_option maxRecDepth 100000 in
theorem kN:jd Tryz.prog 115 bJ (λ_=>True):=
 (vN Tryz.underlying115 (by kernel_rfl) (by kernel_rfl) (.cons wH (by kernel_rfl) (.cons wH (by kernel_rfl) (.cons kS (by kernel_rfl) (.cons kS (by kernel_rfl) (.cons kS (by kernel_rfl) (.cons kS (by kernel_rfl) .nil))))))).conv
   (λa y hG=>⟨⟨a.1,a.2.1,a.2.2.1,a.2.2.2.1,a.2.2.2.2.1,a.2.2.2.2.2.1⟩,(),rfl,rfl,trivial⟩)
def Nz(r:aS):Prop:=r.names.length<9223372036854775808/\r.others.length<9223372036854775808
set_option maxRecDepth 100000 in
theorem lT:jd Tryz.prog 71 aY Nz:=
 (vN Tryz.underlying71 (by kernel_rfl) (by kernel_rfl) (.cons wH (by kernel_rfl) (.cons wH (by kernel_rfl) (.cons kS (by kernel_rfl) (.cons kS (by kernel_rfl) (.cons U6 (by kernel_rfl) (.cons U6 (by kernel_rfl)
   (.cons kS (by kernel_rfl) (.cons kS (by kernel_rfl) (.cons kS (by kernel_rfl) (.cons kS (by kernel_rfl) (.cons wH (by kernel_rfl) (.cons kS (by kernel_rfl) .nil))))))))))))).conv
   (λa y hG=>⟨⟨a.1,a.2.1,a.2.2.1,a.2.2.2.1,a.2.2.2.2.1,a.2.2.2.2.2.1,a.2.2.2.2.2.2.1,a.2.2.2.2.2.2.2.1,a.2.2.2.2.2.2.2.2.1,a.2.2.2.2.2.2.2.2.2.1,a.2.2.2.2.2.2.2.2.2.2.1,a.2.2.2.2.2.2.2.2.2.2.2.1⟩,(y.2.2.2.2.1,y.2.2.2.2.2.1),rfl,rfl,⟨hG.2.2.2.2.1.1,hG.2.2.2.2.2.1.1⟩⟩)
theorem ahl:jd Tryz.prog 23 (aj fA) (oF λ_=>True):=vM Tryz.underlying23 (by kernel_rfl) ahj
theorem ahm:jd Tryz.prog 24 (aj ed) (oF Ny):=vM Tryz.underlying24 (by kernel_rfl) ahk
theorem ahn:jd Tryz.prog 25 (aj bJ) (oF λ_=>True):=vM Tryz.underlying25 (by kernel_rfl) kN
theorem aho:jd Tryz.prog 26 (aj aY) (oF Nz):=vM Tryz.underlying26 (by kernel_rfl) lT
structure ahp(d:bD):Prop where
 w:jU d.w
 h:jU d.h
 holes:d.holes.length<9223372036854775808
 dO:d.symbols.length<9223372036854775808
 regs:oF Ny d.regions
 jk:d.aI.length<9223372036854775808
 kg:oF Nz d.rules
def ahq:Enc bD:=⟨10,Value×Value×Value×Value×Value,λd y=>gq d y.1 y.2.1 y.2.2.1 y.2.2.2.1 y.2.2.2.2,λd y=>kG d y.1 y.2.1 y.2.2.1 y.2.2.2.1 y.2.2.2.2,λ_ _=>rfl⟩
set_option maxRecDepth 100000 in
theorem ahr:jd Tryz.prog 28 ahq ahp:=
 (vN Tryz.underlying28 (by kernel_rfl) (by kernel_rfl) (.cons wH (by kernel_rfl) (.cons kS (by kernel_rfl) (.cons kS (by kernel_rfl) (.cons kS (by kernel_rfl) (.cons kS (by kernel_rfl) (.cons EO (by kernel_rfl)
   (.cons ahl (by kernel_rfl) (.cons ahm (by kernel_rfl) (.cons ahn (by kernel_rfl) (.cons aho (by kernel_rfl) .nil))))))))))).conv
   (λa y hG=>⟨⟨a.1,a.2.1,a.2.2.1,a.2.2.2.1,a.2.2.2.2.1,a.2.2.2.2.2.1,a.2.2.2.2.2.2.1,a.2.2.2.2.2.2.2.1,a.2.2.2.2.2.2.2.2.1,a.2.2.2.2.2.2.2.2.2.1⟩,(y.2.2.2.2.2.1,y.2.2.2.2.2.2.1,y.2.2.2.2.2.2.2.1,y.2.2.2.2.2.2.2.2.1,y.2.2.2.2.2.2.2.2.2.1),rfl,rfl,
     ⟨hG.2.2.2.1,hG.2.2.2.2.1,hG.2.2.2.2.2.1.1,hG.2.2.2.2.2.2.1.1,hG.2.2.2.2.2.2.2.1,hG.2.2.2.2.2.2.2.2.1.1,hG.2.2.2.2.2.2.2.2.2.1⟩⟩)
structure ahs(g:bq):Prop where
 w:jU g.w
 h:jU g.h
 holes:g.holes.length<9223372036854775808
 cells:g.cells.length<9223372036854775808
def aht:Enc bq:=⟨5,Value×Value,λg y=>iI g y.1 y.2,λg y=>je g y.1 y.2,λ_ _=>rfl⟩
set_option maxRecDepth 100000 in
theorem ahu:jd Tryz.prog 30 aht ahs:=
 (vN Tryz.underlying30 (by kernel_rfl) (by kernel_rfl) (.cons kS (by kernel_rfl) (.cons kS (by kernel_rfl) (.cons kS (by kernel_rfl) (.cons EO (by kernel_rfl) (.cons EO (by kernel_rfl) .nil)))))).conv
   (λa y hG=>⟨⟨a.1,a.2.1,a.2.2.1,a.2.2.2.1,a.2.2.2.2.1⟩,(y.2.2.2.1,y.2.2.2.2.1),rfl,rfl,⟨hG.2.1,hG.2.2.1,hG.2.2.2.1.1,hG.2.2.2.2.1.1⟩⟩)
abbrev KV:=Value×Value×Value×Value×Value×Value×Value×Value×Value
def ahv:Enc bT:=⟨17,KV,λk y=>l6 k y.1 y.2.1 y.2.2.1 y.2.2.2.1 y.2.2.2.2.1 y.2.2.2.2.2.1 y.2.2.2.2.2.2.1 y.2.2.2.2.2.2.2.1 y.2.2.2.2.2.2.2.2,λk y=>mW k y.1 y.2.1 y.2.2.1 y.2.2.2.1 y.2.2.2.2.1 y.2.2.2.2.2.1 y.2.2.2.2.2.2.1 y.2.2.2.2.2.2.2.1 y.2.2.2.2.2.2.2.2 [],λ_ _=>rfl⟩
set_option maxRecDepth 100000 in
theorem ahw:jd Tryz.prog 34 ahv BV:=
 (vN Tryz.underlying34 (by kernel_rfl) (by kernel_rfl) (.cons ahr (by kernel_rfl) (.cons ahu (by kernel_rfl) (.cons Nw (by kernel_rfl) (.cons ahi (by kernel_rfl) .nil))))).conv
   (λa y hG=>⟨⟨a.1,a.2.1,a.2.2.1,a.2.2.2.1⟩,(y.1.1,y.1.2.1,y.1.2.2.1,y.1.2.2.2.1,y.1.2.2.2.2,y.2.1.1,y.2.1.2,y.2.2.1,y.2.2.2.1),rfl,rfl,
     ⟨hG.1.w,hG.1.h,hG.2.1.w,hG.2.1.h,hG.1.holes,hG.1.dO,hG.1.regs.1,hG.1.regs.2,hG.1.jk,hG.1.kg.1,hG.1.kg.2,hG.2.1.holes,hG.2.1.cells,⟨hG.2.2.1.1,λl hl=>(hG.2.2.1.2 l hl).1⟩,
      ⟨hG.2.2.2.1.1,λl hl=>⟨(hG.2.2.2.1.2 l hl).1,λm hm=>((hG.2.2.2.1.2 l hl).2 m hm).1⟩⟩⟩⟩)
def U7(g:Clue):Prop:=g.values.length<9223372036854775808
set_option maxRecDepth 100000 in
theorem ahx:jd Tryz.prog 59 j6 U7:=
 (vN Tryz.underlying59 (by kernel_rfl) (by kernel_rfl) (.cons kS (by kernel_rfl) (.cons kS (by kernel_rfl) (.cons EO (by kernel_rfl) .nil)))).conv (λa y hG=>⟨⟨a.1,a.2.1,a.2.2.1⟩,y.2.2.1,rfl,rfl,hG.2.2.1.1⟩)
theorem ahy:jd Tryz.prog 35 (aj j6) (oF U7):=vM Tryz.underlying35 (by kernel_rfl) ahx
set_option maxRecDepth 100000 in
theorem ahz:jd Tryz.prog 37 (aj j6) EG:=
 (vN Tryz.underlying37 (by kernel_rfl) (by kernel_rfl) (.cons ahy (by kernel_rfl) .nil)).conv (λa y hG=>⟨a.1,y.1,rfl,rfl,⟨hG.1.1,hG.1.2⟩⟩)
set_option maxRecDepth 100000 in
theorem ahA(os:Os)(args:Array Value):laidMetH Tryz.prog Rows.puzzlesSpecRow.laid ((World.doorLaid Tryz.prog 4000 os).forCall (λ_ _=>0) ⟨#[],args,[]⟩).memory:=
 laidMetH_of_parts3 (fuel:=8) (laidMet_of_run' 8 (by kernel_rfl) (by kernel_rfl)) (by kernel_rfl) (by kernel_rfl)
