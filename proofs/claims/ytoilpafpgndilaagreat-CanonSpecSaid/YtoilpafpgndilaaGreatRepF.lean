/- Part. -/
import Derived.Test.YtoilpafpgndilaaGreatLibHF
set_option linter.all false
set_option maxHeartbeats 1000000
namespace Go.Proofs.YtoilpafpgndilaaGreat
open Go.Ideal Go.ChangeShapes Go.WideShapes Go.ChangeAt Go.RowKit Kd Canon
theorem Xv:ownKnob Tryz.prog.godebug=none:=by kernel_rfl
theorem Xw:Kids Tryz.prog (·<Tryz.prog.types.size):=kids_rows (by kernel_rfl) (by kernel_rfl)
theorem Xx:∀t e,t<Tryz.prog.types.size->Tryz.prog.underlying t=some (.slice e)->0<Tryz.prog.cellsOf e:=slices_full_of Tryz.prog (by kernel_rfl)
theorem Xy:jC Tryz.prog 41=true:=by kernel_rfl
theorem Xz:jC Tryz.prog 24=true:=by kernel_rfl
theorem l9:iZ Tryz.prog 3 ae kD:=acJ Tryz.underlying3
theorem yA:iZ Tryz.prog 9 bC (λ_=>True):=acK Tryz.underlying9
theorem BG:iZ Tryz.prog 29 (ak ae) (pu kD):=vY Tryz.underlying29 (by kernel_rfl) l9
theorem XB:iZ Tryz.prog 153 (ak bC) (pu λ_=>True):=vY Tryz.underlying153 (by kernel_rfl) yA
theorem Py:iZ Tryz.prog 38 (ak (ak ae)) (pu (pu kD)):=vY Tryz.underlying38 (by kernel_rfl) BG
theorem ajE:iZ Tryz.prog 39 (ak (ak (ak ae))) (pu (pu (pu kD))):=vY Tryz.underlying39 (by kernel_rfl) Py
set_option maxRecDepth 100000 in
theorem ajF:iZ Tryz.prog 246 fF (λ_=>True):=
 (xL Tryz.underlying246 (by kernel_rfl) (by kernel_rfl) (.cons yA (by kernel_rfl) (.cons l9 (by kernel_rfl) .nil))).conv (λa y hG=>⟨⟨a.1,a.2.1⟩,(),rfl,rfl,trivial⟩)
def Pz(r:mV):Prop:=r.lists.length<2^63/\∀l∈r.lists,l.length<2^63
set_option maxRecDepth 100000 in
theorem ajG:iZ Tryz.prog 152 eY Pz:=
 (xL Tryz.underlying152 (by kernel_rfl) (by kernel_rfl) (.cons yA (by kernel_rfl) (.cons Py (by kernel_rfl) .nil))).conv (λa y hG=>⟨⟨a.1,a.2.1⟩,y.2.1,rfl,rfl,⟨hG.2.1.1,λl hl=>(hG.2.1.2 l hl).1⟩⟩)
set_option maxRecDepth 100000 in
theorem lW:iZ Tryz.prog 94 bI (λ_=>True):=
 (xL Tryz.underlying94 (by kernel_rfl) (by kernel_rfl) (.cons yA (by kernel_rfl) (.cons yA (by kernel_rfl) (.cons l9 (by kernel_rfl) (.cons l9 (by kernel_rfl) (.cons l9 (by kernel_rfl) (.cons l9 (by kernel_rfl) .nil))))))).conv
   (λa y hG=>⟨⟨a.1,a.2.1,a.2.2.1,a.2.2.2.1,a.2.2.2.2.1,a.2.2.2.2.2.1⟩,(),rfl,rfl,trivial⟩)
def PD(r:bN):Prop:=r.names.length<2^63/\r.others.length<2^63
set_option maxRecDepth 100000 in
theorem mW:iZ Tryz.prog 155 aY PD:=
 (xL Tryz.underlying155 (by kernel_rfl) (by kernel_rfl) (.cons yA (by kernel_rfl) (.cons yA (by kernel_rfl) (.cons l9 (by kernel_rfl) (.cons l9 (by kernel_rfl) (.cons XB (by kernel_rfl) (.cons XB (by kernel_rfl)
   (.cons l9 (by kernel_rfl) (.cons l9 (by kernel_rfl) (.cons l9 (by kernel_rfl) (.cons l9 (by kernel_rfl) (.cons yA (by kernel_rfl) (.cons l9 (by kernel_rfl) .nil))))))))))))).conv
   (λa y hG=>⟨⟨a.1,a.2.1,a.2.2.1,a.2.2.2.1,a.2.2.2.2.1,a.2.2.2.2.2.1,a.2.2.2.2.2.2.1,a.2.2.2.2.2.2.2.1,a.2.2.2.2.2.2.2.2.1,a.2.2.2.2.2.2.2.2.2.1,a.2.2.2.2.2.2.2.2.2.2.1,a.2.2.2.2.2.2.2.2.2.2.2.1⟩,(y.2.2.2.2.1,y.2.2.2.2.2.1),rfl,rfl,⟨hG.2.2.2.2.1.1,hG.2.2.2.2.2.1.1⟩⟩)
theorem ajH:iZ Tryz.prog 30 (ak fF) (pu λ_=>True):=vY Tryz.underlying30 (by kernel_rfl) ajF
theorem ajI:iZ Tryz.prog 31 (ak eY) (pu Pz):=vY Tryz.underlying31 (by kernel_rfl) ajG
theorem ajJ:iZ Tryz.prog 32 (ak bI) (pu λ_=>True):=vY Tryz.underlying32 (by kernel_rfl) lW
theorem ajK:iZ Tryz.prog 33 (ak aY) (pu PD):=vY Tryz.underlying33 (by kernel_rfl) mW
structure ajL(d:bF):Prop where
 w:kD d.w
 h:kD d.h
 holes:d.holes.length<2^63
 eH:d.symbols.length<2^63
 regs:pu Pz d.regions
 jg:d.aJ.length<2^63
 kX:pu PD d.rules
def ajM:Enc bF:=⟨10,vI×vI×vI×vI×vI,λd y=>ahE d y.1 y.2.1 y.2.2.1 y.2.2.2.1 y.2.2.2.2,λd y=>lG d y.1 y.2.1 y.2.2.1 y.2.2.2.1 y.2.2.2.2,λ_ _=>rfl⟩
set_option maxRecDepth 100000 in
theorem ajN:iZ Tryz.prog 35 ajM ajL:=
 (xL Tryz.underlying35 (by kernel_rfl) (by kernel_rfl) (.cons yA (by kernel_rfl) (.cons l9 (by kernel_rfl) (.cons l9 (by kernel_rfl) (.cons l9 (by kernel_rfl) (.cons l9 (by kernel_rfl) (.cons BG (by kernel_rfl)
   (.cons ajH (by kernel_rfl) (.cons ajI (by kernel_rfl) (.cons ajJ (by kernel_rfl) (.cons ajK (by kernel_rfl) .nil))))))))))).conv
   (λa y hG=>⟨⟨a.1,a.2.1,a.2.2.1,a.2.2.2.1,a.2.2.2.2.1,a.2.2.2.2.2.1,a.2.2.2.2.2.2.1,a.2.2.2.2.2.2.2.1,a.2.2.2.2.2.2.2.2.1,a.2.2.2.2.2.2.2.2.2.1⟩,(y.2.2.2.2.2.1,y.2.2.2.2.2.2.1,y.2.2.2.2.2.2.2.1,y.2.2.2.2.2.2.2.2.1,y.2.2.2.2.2.2.2.2.2.1),rfl,rfl,
     ⟨hG.2.2.2.1,hG.2.2.2.2.1,hG.2.2.2.2.2.1.1,hG.2.2.2.2.2.2.1.1,hG.2.2.2.2.2.2.2.1,hG.2.2.2.2.2.2.2.2.1.1,hG.2.2.2.2.2.2.2.2.2.1⟩⟩)
structure ajO(g:bz):Prop where
 w:kD g.w
 h:kD g.h
 holes:g.holes.length<2^63
 cells:g.cells.length<2^63
def ajP:Enc bz:=⟨5,vI×vI,λg y=>iO g y.1 y.2,λg y=>jq g y.1 y.2,λ_ _=>rfl⟩
set_option maxRecDepth 100000 in
theorem ajQ:iZ Tryz.prog 37 ajP ajO:=
 (xL Tryz.underlying37 (by kernel_rfl) (by kernel_rfl) (.cons l9 (by kernel_rfl) (.cons l9 (by kernel_rfl) (.cons l9 (by kernel_rfl) (.cons BG (by kernel_rfl) (.cons BG (by kernel_rfl) .nil)))))).conv
   (λa y hG=>⟨⟨a.1,a.2.1,a.2.2.1,a.2.2.2.1,a.2.2.2.2.1⟩,(y.2.2.2.1,y.2.2.2.2.1),rfl,rfl,⟨hG.2.1,hG.2.2.1,hG.2.2.2.1.1,hG.2.2.2.2.1.1⟩⟩)
abbrev KV:=vI×vI×vI×vI×vI×vI×vI×vI×vI
def ajR:Enc bD:=⟨17,KV,λk y=>kZ k y.1 y.2.1 y.2.2.1 y.2.2.2.1 y.2.2.2.2.1 y.2.2.2.2.2.1 y.2.2.2.2.2.2.1 y.2.2.2.2.2.2.2.1 y.2.2.2.2.2.2.2.2,λk y=>j6 k y.1 y.2.1 y.2.2.1 y.2.2.2.1 y.2.2.2.2.1 y.2.2.2.2.2.1 y.2.2.2.2.2.2.1 y.2.2.2.2.2.2.2.1 y.2.2.2.2.2.2.2.2 [],λ_ _=>rfl⟩
set_option maxRecDepth 100000 in
theorem XC:iZ Tryz.prog 41 ajR Bu:=
 (xL Tryz.underlying41 (by kernel_rfl) (by kernel_rfl) (.cons ajN (by kernel_rfl) (.cons ajQ (by kernel_rfl) (.cons Py (by kernel_rfl) (.cons ajE (by kernel_rfl) .nil))))).conv
   (λa y hG=>⟨⟨a.1,a.2.1,a.2.2.1,a.2.2.2.1⟩,(y.1.1,y.1.2.1,y.1.2.2.1,y.1.2.2.2.1,y.1.2.2.2.2,y.2.1.1,y.2.1.2,y.2.2.1,y.2.2.2.1),rfl,rfl,
     ⟨hG.1.w,hG.1.h,hG.2.1.w,hG.2.1.h,hG.1.holes,hG.1.eH,hG.1.regs.1,hG.1.regs.2,hG.1.jg,hG.1.kX.1,hG.1.kX.2,hG.2.1.holes,hG.2.1.cells,⟨hG.2.2.1.1,λl hl=>(hG.2.2.1.2 l hl).1⟩,
      ⟨hG.2.2.2.1.1,λl hl=>⟨(hG.2.2.2.1.2 l hl).1,λm hm=>((hG.2.2.2.1.2 l hl).2 m hm).1⟩⟩⟩⟩)
def XD(g:Clue):Prop:=g.values.length<2^63
set_option maxRecDepth 100000 in
theorem ajS:iZ Tryz.prog 76 bO XD:=
 (xL Tryz.underlying76 (by kernel_rfl) (by kernel_rfl) (.cons l9 (by kernel_rfl) (.cons l9 (by kernel_rfl) (.cons BG (by kernel_rfl) .nil)))).conv (λa y hG=>⟨⟨a.1,a.2.1,a.2.2.1⟩,y.2.2.1,rfl,rfl,hG.2.2.1.1⟩)
theorem ajT:iZ Tryz.prog 22 (ak bO) (pu XD):=vY Tryz.underlying22 (by kernel_rfl) ajS
set_option maxRecDepth 100000 in
theorem XE:iZ Tryz.prog 24 (ak bO) wK:=
 (xL Tryz.underlying24 (by kernel_rfl) (by kernel_rfl) (.cons ajT (by kernel_rfl) .nil)).conv (λa y hG=>⟨a.1,y.1,rfl,rfl,⟨hG.1.1,hG.1.2⟩⟩)
def alF:kI adH:=[49,41,24,29,3,35,37,38,39,9,153,30,246,31,152,32,94,33,155,22,76]
theorem asf:∀t,t∈alF->PlainT Tryz.prog (·∈alF) t:=R4 (by kernel_rfl)
theorem ash:∀t,t∈alF->t<Tryz.prog.types.size:=λt ht=>by
 have h:alF.all (λt=>Nat.ble (t+1) Tryz.prog.types.size)=true:=by kernel_rfl
 exact mK (lK.1 h t ht)
theorem asi:jC Tryz.prog 49=true:=by kernel_rfl
structure asj(g:List (List Int)×List Int):Prop where
 len:g.1.length<2^63
 lens:∀s∈g.1,s.length<2^63
 NN:g.2.length<2^63
def asl:Enc (kI (kI Int)×kI Int):=⟨2,vI×vI,λ_ y=>[y.1,y.2],λs y=>[ai (ak ae) y.1 s.1,ai ae y.2 s.2],λ_ _=>rfl⟩
set_option maxRecDepth 100000 in
theorem asn:iZ Tryz.prog 49 asl asj:=
 (xL Tryz.underlying49 (by kernel_rfl) (by kernel_rfl) (.cons Py (by kernel_rfl) (.cons BG (by kernel_rfl) .nil))).conv
   (λa y hG=>⟨(a.1,a.2.1),(y.1,y.2.1),rfl,rfl,⟨hG.1.1,λs hs=>(hG.1.2 s hs).1,hG.2.1.1⟩⟩)
