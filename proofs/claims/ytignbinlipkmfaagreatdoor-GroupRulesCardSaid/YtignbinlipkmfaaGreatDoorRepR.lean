/- Part. -/
import Derived.Test.YtignbinlipkmfaaGreatDoorCards
import Derived.Test.YtignbinlipkmfaaGreatDoorLibHR
import Derived.LaidMore
import Derived.Stop.Joined
set_option linter.all false
set_option maxHeartbeats 1000000
namespace Go.Proofs.YtignbinlipkmfaaGreatDoor
open Go.Ideal Go.ChangeShapes Go.WideShapes Go.ChangeAt Go.RowKit Kd Canon Gph
theorem own:ownKnob Tryz.prog.godebug=none:=by kernel_rfl
theorem kids:Kids Tryz.prog (·<Tryz.prog.types.size):=kids_rows (by kernel_rfl) (by kernel_rfl)
theorem full:∀t e,t<Tryz.prog.types.size->Tryz.prog.underlying t=some (.slice e)->0<Tryz.prog.cellsOf e:=slices_full_of Tryz.prog (by kernel_rfl)
def Fg:ae aF:=[34,47,41,22,3,28,30,31,32,9,59,23,158,24,130,25,173,26,61]
theorem avq:∀t,t∈Fg->PlainT Tryz.prog (·∈Fg) t:=ajk (by kernel_rfl)
theorem small:∀t,t∈Fg->t<Tryz.prog.types.size:=λt ht=>by
 have h:Fg.all (λt=>Nat.ble (t+1) Tryz.prog.types.size)=true:=by kernel_rfl
 exact mG (jN.1 h t ht)
theorem avr:lD Tryz.prog 34=true:=by kernel_rfl
theorem avs:lD Tryz.prog 47=true:=by kernel_rfl
theorem avt:lD Tryz.prog 3=false:=by kernel_rfl
theorem oP:kD Tryz.prog 3 ai lG:=aks Tryz.underlying3
theorem Bu:kD Tryz.prog 9 aX (λ_=>True):=akt Tryz.underlying9
theorem H8:kD Tryz.prog 22 (ay ai) (uz lG):=Cm Tryz.underlying22 (by kernel_rfl) oP
theorem afO:kD Tryz.prog 59 (ay aX) (uz λ_=>True):=Cm Tryz.underlying59 (by kernel_rfl) Bu
theorem Ws:kD Tryz.prog 31 (ay (ay ai)) (uz (uz lG)):=Cm Tryz.underlying31 (by kernel_rfl) H8
theorem avu:kD Tryz.prog 32 (ay (ay (ay ai))) (uz (uz (uz lG))):=Cm Tryz.underlying32 (by kernel_rfl) Ws
set_option maxRecDepth 100000 in
theorem avv:kD Tryz.prog 158 fG (λ_=>True):=
 (Cn Tryz.underlying158 (by kernel_rfl) (by kernel_rfl) (.cons Bu (by kernel_rfl) (.cons oP (by kernel_rfl) .nil))).conv (λa y hG=>⟨⟨a.1,a.2.1⟩,(),rfl,rfl,trivial⟩)
def Wt(r:pu):Prop:=r.lists.length<2^63/\∀l∈r.lists,l.length<2^63
set_option maxRecDepth 100000 in
theorem avw:kD Tryz.prog 130 fw Wt:=
 (Cn Tryz.underlying130 (by kernel_rfl) (by kernel_rfl) (.cons Bu (by kernel_rfl) (.cons Ws (by kernel_rfl) .nil))).conv (λa y hG=>⟨⟨a.1,a.2.1⟩,y.2.1,rfl,rfl,⟨hG.2.1.1,λl hl=>(hG.2.1.2 l hl).1⟩⟩)
set_option maxRecDepth 100000 in
theorem mO:kD Tryz.prog 173 bZ (λ_=>True):=
 (Cn Tryz.underlying173 (by kernel_rfl) (by kernel_rfl) (.cons Bu (by kernel_rfl) (.cons Bu (by kernel_rfl) (.cons oP (by kernel_rfl) (.cons oP (by kernel_rfl) (.cons oP (by kernel_rfl) (.cons oP (by kernel_rfl) .nil))))))).conv
   (λa y hG=>⟨⟨a.1,a.2.1,a.2.2.1,a.2.2.2.1,a.2.2.2.2.1,a.2.2.2.2.2.1⟩,(),rfl,rfl,trivial⟩)
def Wu(r:bE):Prop:=r.names.length<2^63/\r.others.length<2^63
set_option maxRecDepth 100000 in
theorem nL:kD Tryz.prog 61 bi Wu:=
 (Cn Tryz.underlying61 (by kernel_rfl) (by kernel_rfl) (.cons Bu (by kernel_rfl) (.cons Bu (by kernel_rfl) (.cons oP (by kernel_rfl) (.cons oP (by kernel_rfl) (.cons afO (by kernel_rfl) (.cons afO (by kernel_rfl)
   (.cons oP (by kernel_rfl) (.cons oP (by kernel_rfl) (.cons oP (by kernel_rfl) (.cons oP (by kernel_rfl) (.cons Bu (by kernel_rfl) (.cons oP (by kernel_rfl) .nil))))))))))))).conv
   (λa y hG=>⟨⟨a.1,a.2.1,a.2.2.1,a.2.2.2.1,a.2.2.2.2.1,a.2.2.2.2.2.1,a.2.2.2.2.2.2.1,a.2.2.2.2.2.2.2.1,a.2.2.2.2.2.2.2.2.1,a.2.2.2.2.2.2.2.2.2.1,a.2.2.2.2.2.2.2.2.2.2.1,a.2.2.2.2.2.2.2.2.2.2.2.1⟩,(y.2.2.2.2.1,y.2.2.2.2.2.1),rfl,rfl,⟨hG.2.2.2.2.1.1,hG.2.2.2.2.2.1.1⟩⟩)
theorem avx:kD Tryz.prog 23 (ay fG) (uz λ_=>True):=Cm Tryz.underlying23 (by kernel_rfl) avv
theorem avy:kD Tryz.prog 24 (ay fw) (uz Wt):=Cm Tryz.underlying24 (by kernel_rfl) avw
theorem avz:kD Tryz.prog 25 (ay bZ) (uz λ_=>True):=Cm Tryz.underlying25 (by kernel_rfl) mO
theorem avA:kD Tryz.prog 26 (ay bi) (uz Wu):=Cm Tryz.underlying26 (by kernel_rfl) nL
structure avB(d:bK):Prop where
 w:lG d.w
 h:lG d.h
 holes:d.holes.length<2^63
 dK:d.symbols.length<2^63
 regs:uz Wt d.regions
 jS:d.aQ.length<2^63
 lH:uz Wu d.rules
def avC:Enc bK:=⟨10,ah×ah×ah×ah×ah,λd y=>iD d y.1 y.2.1 y.2.2.1 y.2.2.2.1 y.2.2.2.2,λd y=>nK d y.1 y.2.1 y.2.2.1 y.2.2.2.1 y.2.2.2.2,λ_ _=>rfl⟩
set_option maxRecDepth 100000 in
theorem avD:kD Tryz.prog 28 avC avB:=
 (Cn Tryz.underlying28 (by kernel_rfl) (by kernel_rfl) (.cons Bu (by kernel_rfl) (.cons oP (by kernel_rfl) (.cons oP (by kernel_rfl) (.cons oP (by kernel_rfl) (.cons oP (by kernel_rfl) (.cons H8 (by kernel_rfl)
   (.cons avx (by kernel_rfl) (.cons avy (by kernel_rfl) (.cons avz (by kernel_rfl) (.cons avA (by kernel_rfl) .nil))))))))))).conv
   (λa y hG=>⟨⟨a.1,a.2.1,a.2.2.1,a.2.2.2.1,a.2.2.2.2.1,a.2.2.2.2.2.1,a.2.2.2.2.2.2.1,a.2.2.2.2.2.2.2.1,a.2.2.2.2.2.2.2.2.1,a.2.2.2.2.2.2.2.2.2.1⟩,(y.2.2.2.2.2.1,y.2.2.2.2.2.2.1,y.2.2.2.2.2.2.2.1,y.2.2.2.2.2.2.2.2.1,y.2.2.2.2.2.2.2.2.2.1),rfl,rfl,
     ⟨hG.2.2.2.1,hG.2.2.2.2.1,hG.2.2.2.2.2.1.1,hG.2.2.2.2.2.2.1.1,hG.2.2.2.2.2.2.2.1,hG.2.2.2.2.2.2.2.2.1.1,hG.2.2.2.2.2.2.2.2.2.1⟩⟩)
structure avE(g:bA):Prop where
 w:lG g.w
 h:lG g.h
 holes:g.holes.length<2^63
 cells:g.cells.length<2^63
def avF:Enc bA:=⟨5,ah×ah,λg y=>iW g y.1 y.2,λg y=>jU g y.1 y.2,λ_ _=>rfl⟩
set_option maxRecDepth 100000 in
theorem avG:kD Tryz.prog 30 avF avE:=
 (Cn Tryz.underlying30 (by kernel_rfl) (by kernel_rfl) (.cons oP (by kernel_rfl) (.cons oP (by kernel_rfl) (.cons oP (by kernel_rfl) (.cons H8 (by kernel_rfl) (.cons H8 (by kernel_rfl) .nil)))))).conv
   (λa y hG=>⟨⟨a.1,a.2.1,a.2.2.1,a.2.2.2.1,a.2.2.2.2.1⟩,(y.2.2.2.1,y.2.2.2.2.1),rfl,rfl,⟨hG.2.1,hG.2.2.1,hG.2.2.2.1.1,hG.2.2.2.2.1.1⟩⟩)
abbrev KV:=ah×ah×ah×ah×ah×ah×ah×ah×ah
def avH:Enc aZ:=⟨17,KV,λk y=>og k y.1 y.2.1 y.2.2.1 y.2.2.2.1 y.2.2.2.2.1 y.2.2.2.2.2.1 y.2.2.2.2.2.2.1 y.2.2.2.2.2.2.2.1 y.2.2.2.2.2.2.2.2,λk y=>j6 k y.1 y.2.1 y.2.2.1 y.2.2.2.1 y.2.2.2.2.1 y.2.2.2.2.2.1 y.2.2.2.2.2.2.1 y.2.2.2.2.2.2.2.1 y.2.2.2.2.2.2.2.2 [],λ_ _=>rfl⟩
set_option maxRecDepth 100000 in
theorem avI:kD Tryz.prog 34 avH He:=
 (Cn Tryz.underlying34 (by kernel_rfl) (by kernel_rfl) (.cons avD (by kernel_rfl) (.cons avG (by kernel_rfl) (.cons Ws (by kernel_rfl) (.cons avu (by kernel_rfl) .nil))))).conv
   (λa y hG=>⟨⟨a.1,a.2.1,a.2.2.1,a.2.2.2.1⟩,(y.1.1,y.1.2.1,y.1.2.2.1,y.1.2.2.2.1,y.1.2.2.2.2,y.2.1.1,y.2.1.2,y.2.2.1,y.2.2.2.1),rfl,rfl,
     ⟨hG.1.w,hG.1.h,hG.2.1.w,hG.2.1.h,hG.1.holes,hG.1.dK,hG.1.regs.1,hG.1.regs.2,hG.1.jS,hG.1.lH.1,hG.1.lH.2,hG.2.1.holes,hG.2.1.cells,⟨hG.2.2.1.1,λl hl=>(hG.2.2.1.2 l hl).1⟩,
      ⟨hG.2.2.2.1.1,λl hl=>⟨(hG.2.2.2.1.2 l hl).1,λm hm=>((hG.2.2.2.1.2 l hl).2 m hm).1⟩⟩⟩⟩)
def avJ(s:ae Int×ae Int):Prop:=s.1.length<2^63/\s.2.length<2^63
def avK:Enc (ae Int×ae Int):=⟨2,ah×ah,λ_ y=>[y.1,y.2],λs y=>[aj ai y.1 s.1,aj ai y.2 s.2],λ_ _=>rfl⟩
set_option maxRecDepth 100000 in
theorem rSy:kD Tryz.prog 47 avK avJ:=
 (Cn Tryz.underlying47 (by kernel_rfl) (by kernel_rfl) (.cons H8 (by kernel_rfl) (.cons H8 (by kernel_rfl) .nil))).conv
   (λa y hG=>⟨(a.1,a.2.1),(y.1,y.2.1),rfl,rfl,⟨hG.1.1,hG.2.1.1⟩⟩)
structure axg(g:List (List Int)×List Int):Prop where
 len:g.1.length<2^63
 lens:∀s∈g.1,s.length<2^63
 CJ:g.2.length<2^63
set_option maxRecDepth 100000 in
theorem avM(os:Os)(args:Array ah):laidMetH Tryz.prog Rows.groupKeepsSpecRow.laid ((World.doorLaid Tryz.prog 4000 os).forCall (λ_ _=>0) ⟨#[],args,[]⟩).memory:=
 laidMetH_of_parts3 (fuel:=8) (laidMet_of_run' 8 (by kernel_rfl) (by kernel_rfl)) (by kernel_rfl) (by kernel_rfl)
