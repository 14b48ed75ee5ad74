/-
  The arguments of the laws about kinds, as things.
-/
import Derived.Test.YtoohgkkmdnbnfaaGreatDoorCards
import Derived.Test.YtoohgkkmdnbnfaaGreatDoorLibNE
import Derived.LaidMore
import Derived.Stop.Joined
set_option linter.all false
set_option maxHeartbeats 1000000
namespace Go.Proofs.YtoohgkkmdnbnfaaGreatDoor
open Go.Ideal Go.ChangeShapes Go.WideShapes Go.ChangeAt Go.RowKit Kd Canon Gph
theorem own:ownKnob Tryz.prog.godebug=none:=by kernel_rfl
theorem kids:Kids Tryz.prog (·<Tryz.prog.types.size):=kids_rows (by kernel_rfl) (by kernel_rfl)
theorem full:∀t e,t<Tryz.prog.types.size->Tryz.prog.underlying t=some (.slice e)->0<Tryz.prog.cellsOf e:=slices_full_of Tryz.prog (by kernel_rfl)
def yN:List TypeId:=[34,37,22,3,28,30,31,32,9,69,23,84,24,143,25,115,26,71,35,59,51,49,68]
theorem aej:∀t,t∈yN->PlainT Tryz.prog (·∈yN) t:=X9 (by kernel_rfl)
theorem small:∀t,t∈yN->t<Tryz.prog.types.size:=λt ht=>by
 have h:200<Tryz.prog.types.size:=jd (by kernel_rfl);have h2:∀t∈yN,Nat.ble t 200=true:=by decide
 exact Nat.lt_of_le_of_lt (jd (h2 t ht)) h
theorem aek:iR Tryz.prog 34=true:=by kernel_rfl
theorem ael:iR Tryz.prog 37=true:=by kernel_rfl
theorem aem:iR Tryz.prog 51=true:=by kernel_rfl
theorem gY:gN Tryz.prog 3 ae jK:=YG Tryz.underlying3
theorem uK:gN Tryz.prog 9 bV (λ_=>True):=YH Tryz.underlying9
theorem wK:gN Tryz.prog 22 (aC ae) (mF jK):=sw Tryz.underlying22 (by kernel_rfl) gY
theorem TM:gN Tryz.prog 69 (aC bV) (mF λ_=>True):=sw Tryz.underlying69 (by kernel_rfl) uK
theorem Gi:gN Tryz.prog 31 (aC (aC ae)) (mF (mF jK)):=sw Tryz.underlying31 (by kernel_rfl) wK
theorem aen:gN Tryz.prog 32 (aC (aC (aC ae))) (mF (mF (mF jK))):=sw Tryz.underlying32 (by kernel_rfl) Gi
set_option maxRecDepth 100000 in
theorem aeo:gN Tryz.prog 84 jM (λ_=>True):=
 (qW Tryz.underlying84 (by kernel_rfl) (by kernel_rfl) (.cons uK (by kernel_rfl) (.cons gY (by kernel_rfl) .nil))).conv (λa y hG=>⟨⟨a.1,a.2.1⟩,(),rfl,rfl,trivial⟩)
def Lv(r:lW):Prop:=r.lists.length<9223372036854775808/\∀l∈r.lists,l.length<9223372036854775808
set_option maxRecDepth 100000 in
theorem aep:gN Tryz.prog 143 iV Lv:=
 (qW Tryz.underlying143 (by kernel_rfl) (by kernel_rfl) (.cons uK (by kernel_rfl) (.cons Gi (by kernel_rfl) .nil))).conv (λa y hG=>⟨⟨a.1,a.2.1⟩,y.2.1,rfl,rfl,⟨hG.2.1.1,λl hl=>(hG.2.1.2 l hl).1⟩⟩)
set_option maxRecDepth 100000 in
theorem AC:gN Tryz.prog 115 dH (λ_=>True):=
 (qW Tryz.underlying115 (by kernel_rfl) (by kernel_rfl) (.cons uK (by kernel_rfl) (.cons uK (by kernel_rfl) (.cons gY (by kernel_rfl) (.cons gY (by kernel_rfl) (.cons gY (by kernel_rfl) (.cons gY (by kernel_rfl) .nil))))))).conv
   (λa y hG=>⟨⟨a.1,a.2.1,a.2.2.1,a.2.2.2.1,a.2.2.2.2.1,a.2.2.2.2.2.1⟩,(),rfl,rfl,trivial⟩)
def Lx(r:aW):Prop:=r.names.length<9223372036854775808/\r.others.length<9223372036854775808
set_option maxRecDepth 100000 in
theorem qY:gN Tryz.prog 71 bq Lx:=
 (qW Tryz.underlying71 (by kernel_rfl) (by kernel_rfl) (.cons uK (by kernel_rfl) (.cons uK (by kernel_rfl) (.cons gY (by kernel_rfl) (.cons gY (by kernel_rfl) (.cons TM (by kernel_rfl) (.cons TM (by kernel_rfl)
   (.cons gY (by kernel_rfl) (.cons gY (by kernel_rfl) (.cons gY (by kernel_rfl) (.cons gY (by kernel_rfl) (.cons uK (by kernel_rfl) (.cons gY (by kernel_rfl) .nil))))))))))))).conv
   (λa y hG=>⟨⟨a.1,a.2.1,a.2.2.1,a.2.2.2.1,a.2.2.2.2.1,a.2.2.2.2.2.1,a.2.2.2.2.2.2.1,a.2.2.2.2.2.2.2.1,a.2.2.2.2.2.2.2.2.1,a.2.2.2.2.2.2.2.2.2.1,a.2.2.2.2.2.2.2.2.2.2.1,a.2.2.2.2.2.2.2.2.2.2.2.1⟩,(y.2.2.2.2.1,y.2.2.2.2.2.1),rfl,rfl,⟨hG.2.2.2.2.1.1,hG.2.2.2.2.2.1.1⟩⟩)
theorem aeq:gN Tryz.prog 23 (aC jM) (mF λ_=>True):=sw Tryz.underlying23 (by kernel_rfl) aeo
theorem aer:gN Tryz.prog 24 (aC iV) (mF Lv):=sw Tryz.underlying24 (by kernel_rfl) aep
theorem aes:gN Tryz.prog 25 (aC dH) (mF λ_=>True):=sw Tryz.underlying25 (by kernel_rfl) AC
theorem aet:gN Tryz.prog 26 (aC bq) (mF Lx):=sw Tryz.underlying26 (by kernel_rfl) qY
structure aeu(d:bR):Prop where
 w:jK d.w
 h:jK d.h
 holes:d.holes.length<9223372036854775808
 dA:d.symbols.length<9223372036854775808
 regs:mF Lv d.regions
 jZ:d.bI.length<9223372036854775808
 l5:mF Lx d.rules
def aev:Enc bR:=⟨10,Value×Value×Value×Value×Value,λd y=>jY d y.1 y.2.1 y.2.2.1 y.2.2.2.1 y.2.2.2.2,λd y=>nT d y.1 y.2.1 y.2.2.1 y.2.2.2.1 y.2.2.2.2,λ_ _=>rfl⟩
set_option maxRecDepth 100000 in
theorem aew:gN Tryz.prog 28 aev aeu:=
 (qW Tryz.underlying28 (by kernel_rfl) (by kernel_rfl) (.cons uK (by kernel_rfl) (.cons gY (by kernel_rfl) (.cons gY (by kernel_rfl) (.cons gY (by kernel_rfl) (.cons gY (by kernel_rfl) (.cons wK (by kernel_rfl)
   (.cons aeq (by kernel_rfl) (.cons aer (by kernel_rfl) (.cons aes (by kernel_rfl) (.cons aet (by kernel_rfl) .nil))))))))))).conv
   (λa y hG=>⟨⟨a.1,a.2.1,a.2.2.1,a.2.2.2.1,a.2.2.2.2.1,a.2.2.2.2.2.1,a.2.2.2.2.2.2.1,a.2.2.2.2.2.2.2.1,a.2.2.2.2.2.2.2.2.1,a.2.2.2.2.2.2.2.2.2.1⟩,(y.2.2.2.2.2.1,y.2.2.2.2.2.2.1,y.2.2.2.2.2.2.2.1,y.2.2.2.2.2.2.2.2.1,y.2.2.2.2.2.2.2.2.2.1),rfl,rfl,
     ⟨hG.2.2.2.1,hG.2.2.2.2.1,hG.2.2.2.2.2.1.1,hG.2.2.2.2.2.2.1.1,hG.2.2.2.2.2.2.2.1,hG.2.2.2.2.2.2.2.2.1.1,hG.2.2.2.2.2.2.2.2.2.1⟩⟩)
structure aex(g:bO):Prop where
 w:jK g.w
 h:jK g.h
 holes:g.holes.length<9223372036854775808
 cells:g.cells.length<9223372036854775808
def aey:Enc bO:=⟨5,Value×Value,λg y=>l6 g y.1 y.2,λg y=>oZ g y.1 y.2,λ_ _=>rfl⟩
set_option maxRecDepth 100000 in
theorem aez:gN Tryz.prog 30 aey aex:=
 (qW Tryz.underlying30 (by kernel_rfl) (by kernel_rfl) (.cons gY (by kernel_rfl) (.cons gY (by kernel_rfl) (.cons gY (by kernel_rfl) (.cons wK (by kernel_rfl) (.cons wK (by kernel_rfl) .nil)))))).conv
   (λa y hG=>⟨⟨a.1,a.2.1,a.2.2.1,a.2.2.2.1,a.2.2.2.2.1⟩,(y.2.2.2.1,y.2.2.2.2.1),rfl,rfl,⟨hG.2.1,hG.2.2.1,hG.2.2.2.1.1,hG.2.2.2.2.1.1⟩⟩)
abbrev KV:=Value×Value×Value×Value×Value×Value×Value×Value×Value
def aeA:Enc bP:=⟨17,KV,λk y=>mO k y.1 y.2.1 y.2.2.1 y.2.2.2.1 y.2.2.2.2.1 y.2.2.2.2.2.1 y.2.2.2.2.2.2.1 y.2.2.2.2.2.2.2.1 y.2.2.2.2.2.2.2.2,λk y=>nZ k y.1 y.2.1 y.2.2.1 y.2.2.2.1 y.2.2.2.2.1 y.2.2.2.2.2.1 y.2.2.2.2.2.2.1 y.2.2.2.2.2.2.2.1 y.2.2.2.2.2.2.2.2 [],λ_ _=>rfl⟩
set_option maxRecDepth 100000 in
theorem aeB:gN Tryz.prog 34 aeA Bf:=
 (qW Tryz.underlying34 (by kernel_rfl) (by kernel_rfl) (.cons aew (by kernel_rfl) (.cons aez (by kernel_rfl) (.cons Gi (by kernel_rfl) (.cons aen (by kernel_rfl) .nil))))).conv
   (λa y hG=>⟨⟨a.1,a.2.1,a.2.2.1,a.2.2.2.1⟩,(y.1.1,y.1.2.1,y.1.2.2.1,y.1.2.2.2.1,y.1.2.2.2.2,y.2.1.1,y.2.1.2,y.2.2.1,y.2.2.2.1),rfl,rfl,
     ⟨hG.1.w,hG.1.h,hG.2.1.w,hG.2.1.h,hG.1.holes,hG.1.dA,hG.1.regs.1,hG.1.regs.2,hG.1.jZ,hG.1.l5.1,hG.1.l5.2,hG.2.1.holes,hG.2.1.cells,⟨hG.2.2.1.1,λl hl=>(hG.2.2.1.2 l hl).1⟩,
      ⟨hG.2.2.2.1.1,λl hl=>⟨(hG.2.2.2.1.2 l hl).1,λm hm=>((hG.2.2.2.1.2 l hl).2 m hm).1⟩⟩⟩⟩)
def TN(g:Clue):Prop:=g.values.length<9223372036854775808
set_option maxRecDepth 100000 in
theorem aeC:gN Tryz.prog 59 kI TN:=
 (qW Tryz.underlying59 (by kernel_rfl) (by kernel_rfl) (.cons gY (by kernel_rfl) (.cons gY (by kernel_rfl) (.cons wK (by kernel_rfl) .nil)))).conv (λa y hG=>⟨⟨a.1,a.2.1,a.2.2.1⟩,y.2.2.1,rfl,rfl,hG.2.2.1.1⟩)
theorem aeD:gN Tryz.prog 35 (aC kI) (mF TN):=sw Tryz.underlying35 (by kernel_rfl) aeC
set_option maxRecDepth 100000 in
theorem aeE:gN Tryz.prog 37 (aC kI) Dv:=
 (qW Tryz.underlying37 (by kernel_rfl) (by kernel_rfl) (.cons aeD (by kernel_rfl) .nil)).conv (λa y hG=>⟨a.1,y.1,rfl,rfl,⟨hG.1.1,hG.1.2⟩⟩)
set_option maxRecDepth 100000 in
theorem aeF:gN Tryz.prog 68 iW Bb:=
 (qW Tryz.underlying68 (by kernel_rfl) (by kernel_rfl) (.cons gY (by kernel_rfl) (.cons wK (by kernel_rfl) (.cons gY (by kernel_rfl) (.cons gY (by kernel_rfl) (.cons gY (by kernel_rfl) (.cons gY (by kernel_rfl)
   (.cons wK (by kernel_rfl) (.cons gY (by kernel_rfl) (.cons gY (by kernel_rfl) .nil)))))))))).conv
   (λa y hG=>⟨⟨a.1,a.2.1,a.2.2.1,a.2.2.2.1,a.2.2.2.2.1,a.2.2.2.2.2.1,a.2.2.2.2.2.2.1,a.2.2.2.2.2.2.2.1,a.2.2.2.2.2.2.2.2.1⟩,(y.2.1,y.2.2.2.2.2.2.1),rfl,rfl,⟨hG.2.1.1,hG.2.2.2.2.2.2.1.1⟩⟩)
theorem aeG:gN Tryz.prog 49 (aC iW) (mF Bb):=sw Tryz.underlying49 (by kernel_rfl) aeF
def Gj:Enc oP:=⟨5,Value×Value×Value,λq y=>kU q y.1 y.2.1 y.2.2,λq y=>[ai ae y.1 q.values,ai (aC ae) y.2.1 q.aK,ai iW y.2.2 q.cons],λ_ _=>rfl⟩
set_option maxRecDepth 100000 in
theorem aeH:gN Tryz.prog 51 Gj (λq=>Be q/\q.aK.length<9223372036854775808):=
 (qW Tryz.underlying51 (by kernel_rfl) (by kernel_rfl) (.cons gY (by kernel_rfl) (.cons gY (by kernel_rfl) (.cons wK (by kernel_rfl) (.cons Gi (by kernel_rfl) (.cons aeG (by kernel_rfl) .nil)))))).conv
   (λa y hG=>⟨⟨a.1,a.2.1,a.2.2.1,a.2.2.2.1,a.2.2.2.2.1⟩,(y.2.2.1,y.2.2.2.1,y.2.2.2.2.1),rfl,rfl,⟨⟨hG.2.2.1.1,λl hl=>(hG.2.2.2.1.2 l hl).1,hG.2.2.2.2.1.1,hG.2.2.2.2.1.2⟩,hG.2.2.2.1.1⟩⟩)
set_option maxRecDepth 100000 in
theorem aeI(os:Os)(args:Array Value):laidMetH Tryz.prog Rows.puzzlesSpecRow.laid ((World.doorLaid Tryz.prog 4000 os).forCall (λ_ _=>0) ⟨#[],args,[]⟩).memory:=
 laidMetH_of_parts3 (fuel:=8) (laidMet_of_run' 8 (by kernel_rfl) (by kernel_rfl)) (by kernel_rfl) (by kernel_rfl)
