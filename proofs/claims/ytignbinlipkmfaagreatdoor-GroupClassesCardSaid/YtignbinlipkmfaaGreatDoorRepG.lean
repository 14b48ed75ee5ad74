/- Part. -/
import Derived.Test.YtignbinlipkmfaaGreatDoorCards
import Derived.Test.YtignbinlipkmfaaGreatDoorLibHG
import Derived.LaidMore
import Derived.Stop.Joined
set_option linter.all false
set_option maxHeartbeats 1000000
namespace Go.Proofs.YtignbinlipkmfaaGreatDoor
open Go.Ideal Go.ChangeShapes Go.WideShapes Go.ChangeAt Go.RowKit Kd Canon Gph
theorem own:ownKnob Tryz.prog.godebug=none:=by kernel_rfl
theorem kids:Kids Tryz.prog (·<Tryz.prog.types.size):=kids_rows (by kernel_rfl) (by kernel_rfl)
theorem full:∀t e,t<Tryz.prog.types.size->Tryz.prog.underlying t=some (.slice e)->0<Tryz.prog.cellsOf e:=slices_full_of Tryz.prog (by kernel_rfl)
def x8:ae aB:=[34,47,41,22,3,28,30,31,32,9,59,23,158,24,130,25,173,26,61]
theorem ab6:∀t,t∈x8->PlainT Tryz.prog (·∈x8) t:=afQ (by kernel_rfl)
theorem small:∀t,t∈x8->t<Tryz.prog.types.size:=λt ht=>by
 have h:x8.all (λt=>Nat.ble (t+1) Tryz.prog.types.size)=true:=by kernel_rfl
 exact lg (iE.1 h t ht)
theorem ab7:kv Tryz.prog 34=true:=by kernel_rfl
theorem ab8:kv Tryz.prog 3=false:=by kernel_rfl
theorem mK:jZ Tryz.prog 3 ai kV:=ag1 Tryz.underlying3
theorem zH:jZ Tryz.prog 9 dF (λ_=>True):=ag2 Tryz.underlying9
theorem M4:jZ Tryz.prog 22 (az ai) (rV kV):=AC Tryz.underlying22 (by kernel_rfl) mK
theorem ab9:jZ Tryz.prog 59 (az dF) (rV λ_=>True):=AC Tryz.underlying59 (by kernel_rfl) zH
theorem Sm:jZ Tryz.prog 31 (az (az ai)) (rV (rV kV)):=AC Tryz.underlying31 (by kernel_rfl) M4
theorem aqn:jZ Tryz.prog 32 (az (az (az ai))) (rV (rV (rV kV))):=AC Tryz.underlying32 (by kernel_rfl) Sm
set_option maxRecDepth 100000 in
theorem aqo:jZ Tryz.prog 158 jH (λ_=>True):=
 (Cq Tryz.underlying158 (by kernel_rfl) (by kernel_rfl) (.cons zH (by kernel_rfl) (.cons mK (by kernel_rfl) .nil))).conv (λa y hG=>⟨⟨a.1,a.2.1⟩,(),rfl,rfl,trivial⟩)
def Sn(r:pQ):Prop:=r.lists.length<2^63/\∀l∈r.lists,l.length<2^63
set_option maxRecDepth 100000 in
theorem aqp:jZ Tryz.prog 130 kz Sn:=
 (Cq Tryz.underlying130 (by kernel_rfl) (by kernel_rfl) (.cons zH (by kernel_rfl) (.cons Sm (by kernel_rfl) .nil))).conv (λa y hG=>⟨⟨a.1,a.2.1⟩,y.2.1,rfl,rfl,⟨hG.2.1.1,λl hl=>(hG.2.1.2 l hl).1⟩⟩)
set_option maxRecDepth 100000 in
theorem ED:jZ Tryz.prog 173 eX (λ_=>True):=
 (Cq Tryz.underlying173 (by kernel_rfl) (by kernel_rfl) (.cons zH (by kernel_rfl) (.cons zH (by kernel_rfl) (.cons mK (by kernel_rfl) (.cons mK (by kernel_rfl) (.cons mK (by kernel_rfl) (.cons mK (by kernel_rfl) .nil))))))).conv
   (λa y hG=>⟨⟨a.1,a.2.1,a.2.2.1,a.2.2.2.1,a.2.2.2.2.1,a.2.2.2.2.2.1⟩,(),rfl,rfl,trivial⟩)
def Sq(r:dz):Prop:=r.names.length<2^63/\r.others.length<2^63
set_option maxRecDepth 100000 in
theorem wC:jZ Tryz.prog 61 bQ Sq:=
 (Cq Tryz.underlying61 (by kernel_rfl) (by kernel_rfl) (.cons zH (by kernel_rfl) (.cons zH (by kernel_rfl) (.cons mK (by kernel_rfl) (.cons mK (by kernel_rfl) (.cons ab9 (by kernel_rfl) (.cons ab9 (by kernel_rfl)
   (.cons mK (by kernel_rfl) (.cons mK (by kernel_rfl) (.cons mK (by kernel_rfl) (.cons mK (by kernel_rfl) (.cons zH (by kernel_rfl) (.cons mK (by kernel_rfl) .nil))))))))))))).conv
   (λa y hG=>⟨⟨a.1,a.2.1,a.2.2.1,a.2.2.2.1,a.2.2.2.2.1,a.2.2.2.2.2.1,a.2.2.2.2.2.2.1,a.2.2.2.2.2.2.2.1,a.2.2.2.2.2.2.2.2.1,a.2.2.2.2.2.2.2.2.2.1,a.2.2.2.2.2.2.2.2.2.2.1,a.2.2.2.2.2.2.2.2.2.2.2.1⟩,(y.2.2.2.2.1,y.2.2.2.2.2.1),rfl,rfl,⟨hG.2.2.2.2.1.1,hG.2.2.2.2.2.1.1⟩⟩)
theorem aqr:jZ Tryz.prog 23 (az jH) (rV λ_=>True):=AC Tryz.underlying23 (by kernel_rfl) aqo
theorem aqs:jZ Tryz.prog 24 (az kz) (rV Sn):=AC Tryz.underlying24 (by kernel_rfl) aqp
theorem aqt:jZ Tryz.prog 25 (az eX) (rV λ_=>True):=AC Tryz.underlying25 (by kernel_rfl) ED
theorem aqu:jZ Tryz.prog 26 (az bQ) (rV Sq):=AC Tryz.underlying26 (by kernel_rfl) wC
structure aqv(d:dA):Prop where
 w:kV d.w
 h:kV d.h
 holes:d.holes.length<2^63
 dZ:d.symbols.length<2^63
 regs:rV Sn d.regions
 mR:d.bY.length<2^63
 pV:rV Sq d.rules
def aqw:Enc dA:=⟨10,ah×ah×ah×ah×ah,λd y=>mQ d y.1 y.2.1 y.2.2.1 y.2.2.2.1 y.2.2.2.2,λd y=>rY d y.1 y.2.1 y.2.2.1 y.2.2.2.1 y.2.2.2.2,λ_ _=>rfl⟩
set_option maxRecDepth 100000 in
theorem aqx:jZ Tryz.prog 28 aqw aqv:=
 (Cq Tryz.underlying28 (by kernel_rfl) (by kernel_rfl) (.cons zH (by kernel_rfl) (.cons mK (by kernel_rfl) (.cons mK (by kernel_rfl) (.cons mK (by kernel_rfl) (.cons mK (by kernel_rfl) (.cons M4 (by kernel_rfl)
   (.cons aqr (by kernel_rfl) (.cons aqs (by kernel_rfl) (.cons aqt (by kernel_rfl) (.cons aqu (by kernel_rfl) .nil))))))))))).conv
   (λa y hG=>⟨⟨a.1,a.2.1,a.2.2.1,a.2.2.2.1,a.2.2.2.2.1,a.2.2.2.2.2.1,a.2.2.2.2.2.2.1,a.2.2.2.2.2.2.2.1,a.2.2.2.2.2.2.2.2.1,a.2.2.2.2.2.2.2.2.2.1⟩,(y.2.2.2.2.2.1,y.2.2.2.2.2.2.1,y.2.2.2.2.2.2.2.1,y.2.2.2.2.2.2.2.2.1,y.2.2.2.2.2.2.2.2.2.1),rfl,rfl,
     ⟨hG.2.2.2.1,hG.2.2.2.2.1,hG.2.2.2.2.2.1.1,hG.2.2.2.2.2.2.1.1,hG.2.2.2.2.2.2.2.1,hG.2.2.2.2.2.2.2.2.1.1,hG.2.2.2.2.2.2.2.2.2.1⟩⟩)
structure aqy(g:bM):Prop where
 w:kV g.w
 h:kV g.h
 holes:g.holes.length<2^63
 cells:g.cells.length<2^63
def aqz:Enc bM:=⟨5,ah×ah,λg y=>mI g y.1 y.2,λg y=>qV g y.1 y.2,λ_ _=>rfl⟩
set_option maxRecDepth 100000 in
theorem aqA:jZ Tryz.prog 30 aqz aqy:=
 (Cq Tryz.underlying30 (by kernel_rfl) (by kernel_rfl) (.cons mK (by kernel_rfl) (.cons mK (by kernel_rfl) (.cons mK (by kernel_rfl) (.cons M4 (by kernel_rfl) (.cons M4 (by kernel_rfl) .nil)))))).conv
   (λa y hG=>⟨⟨a.1,a.2.1,a.2.2.1,a.2.2.2.1,a.2.2.2.2.1⟩,(y.2.2.2.1,y.2.2.2.2.1),rfl,rfl,⟨hG.2.1,hG.2.2.1,hG.2.2.2.1.1,hG.2.2.2.2.1.1⟩⟩)
abbrev KV:=ah×ah×ah×ah×ah×ah×ah×ah×ah
def aqB:Enc aZ:=⟨17,KV,λk y=>oW k y.1 y.2.1 y.2.2.1 y.2.2.2.1 y.2.2.2.2.1 y.2.2.2.2.2.1 y.2.2.2.2.2.2.1 y.2.2.2.2.2.2.2.1 y.2.2.2.2.2.2.2.2,λk y=>jO k y.1 y.2.1 y.2.2.1 y.2.2.2.1 y.2.2.2.2.1 y.2.2.2.2.2.1 y.2.2.2.2.2.2.1 y.2.2.2.2.2.2.2.1 y.2.2.2.2.2.2.2.2 [],λ_ _=>rfl⟩
set_option maxRecDepth 100000 in
theorem acd:jZ Tryz.prog 34 aqB CV:=
 (Cq Tryz.underlying34 (by kernel_rfl) (by kernel_rfl) (.cons aqx (by kernel_rfl) (.cons aqA (by kernel_rfl) (.cons Sm (by kernel_rfl) (.cons aqn (by kernel_rfl) .nil))))).conv
   (λa y hG=>⟨⟨a.1,a.2.1,a.2.2.1,a.2.2.2.1⟩,(y.1.1,y.1.2.1,y.1.2.2.1,y.1.2.2.2.1,y.1.2.2.2.2,y.2.1.1,y.2.1.2,y.2.2.1,y.2.2.2.1),rfl,rfl,
     ⟨hG.1.w,hG.1.h,hG.2.1.w,hG.2.1.h,hG.1.holes,hG.1.dZ,hG.1.regs.1,hG.1.regs.2,hG.1.mR,hG.1.pV.1,hG.1.pV.2,hG.2.1.holes,hG.2.1.cells,⟨hG.2.2.1.1,λl hl=>(hG.2.2.1.2 l hl).1⟩,
      ⟨hG.2.2.2.1.1,λl hl=>⟨(hG.2.2.2.1.2 l hl).1,λm hm=>((hG.2.2.2.1.2 l hl).2 m hm).1⟩⟩⟩⟩)
structure ash(g:List (List Int)×List Int):Prop where
 len:g.1.length<2^63
 lens:∀s∈g.1,s.length<2^63
 xN:g.2.length<2^63
set_option maxRecDepth 100000 in
theorem ace(os:Os)(args:Array ah):laidMetH Tryz.prog Rows.groupKeepsSpecRow.laid ((World.doorLaid Tryz.prog 4000 os).forCall (λ_ _=>0) ⟨#[],args,[]⟩).memory:=
 laidMetH_of_parts3 (fuel:=8) (laidMet_of_run' 8 (by kernel_rfl) (by kernel_rfl)) (by kernel_rfl) (by kernel_rfl)
