/-
  The arguments of the laws about kinds, as things.
-/
import Derived.Test.YtoohgkkmdnbnfaaGreatDoorCards
import Derived.Test.YtoohgkkmdnbnfaaGreatDoorLibNA
import Derived.LaidMore
import Derived.Stop.Joined
set_option linter.all false
set_option maxHeartbeats 1000000
namespace Go.Proofs.YtoohgkkmdnbnfaaGreatDoor
open Go.Ideal Go.ChangeShapes Go.WideShapes Go.ChangeAt Go.RowKit Kd Canon Gph
theorem own:ownKnob Tryz.prog.godebug=none:=by kernel_rfl
theorem kids:Kids Tryz.prog (·<Tryz.prog.types.size):=kids_rows (by kernel_rfl) (by kernel_rfl)
theorem full:∀t e,t<Tryz.prog.types.size->Tryz.prog.underlying t=some (.slice e)->0<Tryz.prog.cellsOf e:=slices_full_of Tryz.prog (by kernel_rfl)
def AC:List TypeId:=[34,37,22,3,28,30,31,32,9,69,23,84,24,143,25,115,26,71,35,59,51,49,68]
theorem aie:∀t,t∈AC->PlainT Tryz.prog (·∈AC) t:=Z8 (by kernel_rfl)
theorem small:∀t,t∈AC->t<Tryz.prog.types.size:=λt ht=>by
 have h:200<Tryz.prog.types.size:=jV (by kernel_rfl);have h2:∀t∈AC,Nat.ble t 200=true:=by decide
 exact Nat.lt_of_le_of_lt (jV (h2 t ht)) h
theorem aif:jJ Tryz.prog 34=true:=by kernel_rfl
theorem aih:jJ Tryz.prog 37=true:=by kernel_rfl
theorem aii:jJ Tryz.prog 3=false:=by kernel_rfl
theorem kY:je Tryz.prog 3 aa jU:=abh Tryz.underlying3
theorem wU:je Tryz.prog 9 aR (λ_=>True):=abj Tryz.underlying9
theorem Gb:je Tryz.prog 22 (aj aa) (oQ jU):=vX Tryz.underlying22 (by kernel_rfl) kY
theorem VQ:je Tryz.prog 69 (aj aR) (oQ λ_=>True):=vX Tryz.underlying69 (by kernel_rfl) wU
theorem Oc:je Tryz.prog 31 (aj (aj aa)) (oQ (oQ jU)):=vX Tryz.underlying31 (by kernel_rfl) Gb
theorem aij:je Tryz.prog 32 (aj (aj (aj aa))) (oQ (oQ (oQ jU))):=vX Tryz.underlying32 (by kernel_rfl) Oc
set_option maxRecDepth 100000 in
theorem aik:je Tryz.prog 84 fF (λ_=>True):=
 (vY Tryz.underlying84 (by kernel_rfl) (by kernel_rfl) (.cons wU (by kernel_rfl) (.cons kY (by kernel_rfl) .nil))).conv (λa y hG=>⟨⟨a.1,a.2.1⟩,(),rfl,rfl,trivial⟩)
def Od(r:mg):Prop:=r.lists.length<9223372036854775808/\∀l∈r.lists,l.length<9223372036854775808
set_option maxRecDepth 100000 in
theorem ail:je Tryz.prog 143 eH Od:=
 (vY Tryz.underlying143 (by kernel_rfl) (by kernel_rfl) (.cons wU (by kernel_rfl) (.cons Oc (by kernel_rfl) .nil))).conv (λa y hG=>⟨⟨a.1,a.2.1⟩,y.2.1,rfl,rfl,⟨hG.2.1.1,λl hl=>(hG.2.1.2 l hl).1⟩⟩)
set_option maxRecDepth 100000 in
theorem lm:je Tryz.prog 115 bM (λ_=>True):=
 (vY Tryz.underlying115 (by kernel_rfl) (by kernel_rfl) (.cons wU (by kernel_rfl) (.cons wU (by kernel_rfl) (.cons kY (by kernel_rfl) (.cons kY (by kernel_rfl) (.cons kY (by kernel_rfl) (.cons kY (by kernel_rfl) .nil))))))).conv
   (λa y hG=>⟨⟨a.1,a.2.1,a.2.2.1,a.2.2.2.1,a.2.2.2.2.1,a.2.2.2.2.2.1⟩,(),rfl,rfl,trivial⟩)
def Oe(r:aU):Prop:=r.names.length<9223372036854775808/\r.others.length<9223372036854775808
set_option maxRecDepth 100000 in
theorem mh:je Tryz.prog 71 aY Oe:=
 (vY Tryz.underlying71 (by kernel_rfl) (by kernel_rfl) (.cons wU (by kernel_rfl) (.cons wU (by kernel_rfl) (.cons kY (by kernel_rfl) (.cons kY (by kernel_rfl) (.cons VQ (by kernel_rfl) (.cons VQ (by kernel_rfl)
   (.cons kY (by kernel_rfl) (.cons kY (by kernel_rfl) (.cons kY (by kernel_rfl) (.cons kY (by kernel_rfl) (.cons wU (by kernel_rfl) (.cons kY (by kernel_rfl) .nil))))))))))))).conv
   (λa y hG=>⟨⟨a.1,a.2.1,a.2.2.1,a.2.2.2.1,a.2.2.2.2.1,a.2.2.2.2.2.1,a.2.2.2.2.2.2.1,a.2.2.2.2.2.2.2.1,a.2.2.2.2.2.2.2.2.1,a.2.2.2.2.2.2.2.2.2.1,a.2.2.2.2.2.2.2.2.2.2.1,a.2.2.2.2.2.2.2.2.2.2.2.1⟩,(y.2.2.2.2.1,y.2.2.2.2.2.1),rfl,rfl,⟨hG.2.2.2.2.1.1,hG.2.2.2.2.2.1.1⟩⟩)
theorem aim:je Tryz.prog 23 (aj fF) (oQ λ_=>True):=vX Tryz.underlying23 (by kernel_rfl) aik
theorem ain:je Tryz.prog 24 (aj eH) (oQ Od):=vX Tryz.underlying24 (by kernel_rfl) ail
theorem aio:je Tryz.prog 25 (aj bM) (oQ λ_=>True):=vX Tryz.underlying25 (by kernel_rfl) lm
theorem aip:je Tryz.prog 26 (aj aY) (oQ Oe):=vX Tryz.underlying26 (by kernel_rfl) mh
structure aiq(d:bE):Prop where
 w:jU d.w
 h:jU d.h
 holes:d.holes.length<9223372036854775808
 dP:d.symbols.length<9223372036854775808
 regs:oQ Od d.regions
 jv:d.aJ.length<9223372036854775808
 kG:oQ Oe d.rules
def air:Enc bE:=⟨10,Value×Value×Value×Value×Value,λd y=>gF d y.1 y.2.1 y.2.2.1 y.2.2.2.1 y.2.2.2.2,λd y=>kT d y.1 y.2.1 y.2.2.1 y.2.2.2.1 y.2.2.2.2,λ_ _=>rfl⟩
set_option maxRecDepth 100000 in
theorem ais:je Tryz.prog 28 air aiq:=
 (vY Tryz.underlying28 (by kernel_rfl) (by kernel_rfl) (.cons wU (by kernel_rfl) (.cons kY (by kernel_rfl) (.cons kY (by kernel_rfl) (.cons kY (by kernel_rfl) (.cons kY (by kernel_rfl) (.cons Gb (by kernel_rfl)
   (.cons aim (by kernel_rfl) (.cons ain (by kernel_rfl) (.cons aio (by kernel_rfl) (.cons aip (by kernel_rfl) .nil))))))))))).conv
   (λa y hG=>⟨⟨a.1,a.2.1,a.2.2.1,a.2.2.2.1,a.2.2.2.2.1,a.2.2.2.2.2.1,a.2.2.2.2.2.2.1,a.2.2.2.2.2.2.2.1,a.2.2.2.2.2.2.2.2.1,a.2.2.2.2.2.2.2.2.2.1⟩,(y.2.2.2.2.2.1,y.2.2.2.2.2.2.1,y.2.2.2.2.2.2.2.1,y.2.2.2.2.2.2.2.2.1,y.2.2.2.2.2.2.2.2.2.1),rfl,rfl,
     ⟨hG.2.2.2.1,hG.2.2.2.2.1,hG.2.2.2.2.2.1.1,hG.2.2.2.2.2.2.1.1,hG.2.2.2.2.2.2.2.1,hG.2.2.2.2.2.2.2.2.1.1,hG.2.2.2.2.2.2.2.2.2.1⟩⟩)
structure ait(g:bA):Prop where
 w:jU g.w
 h:jU g.h
 holes:g.holes.length<9223372036854775808
 cells:g.cells.length<9223372036854775808
def aiu:Enc bA:=⟨5,Value×Value,λg y=>iM g y.1 y.2,λg y=>jy g y.1 y.2,λ_ _=>rfl⟩
set_option maxRecDepth 100000 in
theorem aiv:je Tryz.prog 30 aiu ait:=
 (vY Tryz.underlying30 (by kernel_rfl) (by kernel_rfl) (.cons kY (by kernel_rfl) (.cons kY (by kernel_rfl) (.cons kY (by kernel_rfl) (.cons Gb (by kernel_rfl) (.cons Gb (by kernel_rfl) .nil)))))).conv
   (λa y hG=>⟨⟨a.1,a.2.1,a.2.2.1,a.2.2.2.1,a.2.2.2.2.1⟩,(y.2.2.2.1,y.2.2.2.2.1),rfl,rfl,⟨hG.2.1,hG.2.2.1,hG.2.2.2.1.1,hG.2.2.2.2.1.1⟩⟩)
abbrev KV:=Value×Value×Value×Value×Value×Value×Value×Value×Value
def aiw:Enc bS:=⟨17,KV,λk y=>mG k y.1 y.2.1 y.2.2.1 y.2.2.2.1 y.2.2.2.2.1 y.2.2.2.2.2.1 y.2.2.2.2.2.2.1 y.2.2.2.2.2.2.2.1 y.2.2.2.2.2.2.2.2,λk y=>nI k y.1 y.2.1 y.2.2.1 y.2.2.2.1 y.2.2.2.2.1 y.2.2.2.2.2.1 y.2.2.2.2.2.2.1 y.2.2.2.2.2.2.2.1 y.2.2.2.2.2.2.2.2 [],λ_ _=>rfl⟩
set_option maxRecDepth 100000 in
theorem aix:je Tryz.prog 34 aiw Cz:=
 (vY Tryz.underlying34 (by kernel_rfl) (by kernel_rfl) (.cons ais (by kernel_rfl) (.cons aiv (by kernel_rfl) (.cons Oc (by kernel_rfl) (.cons aij (by kernel_rfl) .nil))))).conv
   (λa y hG=>⟨⟨a.1,a.2.1,a.2.2.1,a.2.2.2.1⟩,(y.1.1,y.1.2.1,y.1.2.2.1,y.1.2.2.2.1,y.1.2.2.2.2,y.2.1.1,y.2.1.2,y.2.2.1,y.2.2.2.1),rfl,rfl,
     ⟨hG.1.w,hG.1.h,hG.2.1.w,hG.2.1.h,hG.1.holes,hG.1.dP,hG.1.regs.1,hG.1.regs.2,hG.1.jv,hG.1.kG.1,hG.1.kG.2,hG.2.1.holes,hG.2.1.cells,⟨hG.2.2.1.1,λl hl=>(hG.2.2.1.2 l hl).1⟩,
      ⟨hG.2.2.2.1.1,λl hl=>⟨(hG.2.2.2.1.2 l hl).1,λm hm=>((hG.2.2.2.1.2 l hl).2 m hm).1⟩⟩⟩⟩)
def VS(g:Clue):Prop:=g.values.length<9223372036854775808
set_option maxRecDepth 100000 in
theorem aiy:je Tryz.prog 59 eF VS:=
 (vY Tryz.underlying59 (by kernel_rfl) (by kernel_rfl) (.cons kY (by kernel_rfl) (.cons kY (by kernel_rfl) (.cons Gb (by kernel_rfl) .nil)))).conv (λa y hG=>⟨⟨a.1,a.2.1,a.2.2.1⟩,y.2.2.1,rfl,rfl,hG.2.2.1.1⟩)
theorem aiz:je Tryz.prog 35 (aj eF) (oQ VS):=vX Tryz.underlying35 (by kernel_rfl) aiy
set_option maxRecDepth 100000 in
theorem aiA:je Tryz.prog 37 (aj eF) Au:=
 (vY Tryz.underlying37 (by kernel_rfl) (by kernel_rfl) (.cons aiz (by kernel_rfl) .nil)).conv (λa y hG=>⟨a.1,y.1,rfl,rfl,⟨hG.1.1,hG.1.2⟩⟩)
set_option maxRecDepth 100000 in
theorem aiB(os:Os)(args:Array Value):laidMetH Tryz.prog Rows.puzzlesSpecRow.laid ((World.doorLaid Tryz.prog 4000 os).forCall (λ_ _=>0) ⟨#[],args,[]⟩).memory:=
 laidMetH_of_parts3 (fuel:=8) (laidMet_of_run' 8 (by kernel_rfl) (by kernel_rfl)) (by kernel_rfl) (by kernel_rfl)
