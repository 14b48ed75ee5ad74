/-
  Part RepW.
-/
import Derived.Test.YtfakljdleblkoaaGreatLibKW
set_option linter.all false
set_option maxHeartbeats 1000000
namespace Go.Proofs.YtfakljdleblkoaaGreat
open Go.Ideal Go.ChangeShapes Go.WideShapes Go.ChangeAt Go.RowKit Kd Canon
theorem ais:ownKnob Tryz.prog.godebug=none:=by kernel_rfl
theorem ait:Kids Tryz.prog (·<Tryz.prog.types.size):=kids_rows (by kernel_rfl) (by kernel_rfl)
theorem aiu:∀t e,t<Tryz.prog.types.size->Tryz.prog.underlying t=some (.slice e)->0<Tryz.prog.cellsOf e:=slices_full_of Tryz.prog (by kernel_rfl)
theorem aiv:jL Tryz.prog 34=true:=by kernel_rfl
theorem anp:jL Tryz.prog 49=true:=by kernel_rfl
theorem anq:jL Tryz.prog 22=false:=by kernel_rfl
theorem mU:jB Tryz.prog 3 ae j5:=abU Tryz.underlying3
theorem xO:jB Tryz.prog 9 bD (λ_=>True):=abV Tryz.underlying9
theorem CO:jB Tryz.prog 22 (ak ae) (qw j5):=yE Tryz.underlying22 (by kernel_rfl) mU
theorem WA:jB Tryz.prog 91 (ak bD) (qw λ_=>True):=yE Tryz.underlying91 (by kernel_rfl) xO
theorem OD:jB Tryz.prog 31 (ak (ak ae)) (qw (qw j5)):=yE Tryz.underlying31 (by kernel_rfl) CO
theorem aiw:jB Tryz.prog 32 (ak (ak (ak ae))) (qw (qw (qw j5))):=yE Tryz.underlying32 (by kernel_rfl) OD
set_option maxRecDepth 100000 in
theorem aix:jB Tryz.prog 98 eP (λ_=>True):=
 (yF Tryz.underlying98 (by kernel_rfl) (by kernel_rfl) (.cons xO (by kernel_rfl) (.cons mU (by kernel_rfl) .nil))).conv (λa y hG=>⟨⟨a.1,a.2.1⟩,(),rfl,rfl,trivial⟩)
def OE(r:mH):Prop:=r.lists.length<9223372036854775808/\∀l∈r.lists,l.length<9223372036854775808
set_option maxRecDepth 100000 in
theorem aiy:jB Tryz.prog 68 eZ OE:=
 (yF Tryz.underlying68 (by kernel_rfl) (by kernel_rfl) (.cons xO (by kernel_rfl) (.cons OD (by kernel_rfl) .nil))).conv (λa y hG=>⟨⟨a.1,a.2.1⟩,y.2.1,rfl,rfl,⟨hG.2.1.1,λl hl=>(hG.2.1.2 l hl).1⟩⟩)
set_option maxRecDepth 100000 in
theorem lI:jB Tryz.prog 62 bP (λ_=>True):=
 (yF Tryz.underlying62 (by kernel_rfl) (by kernel_rfl) (.cons xO (by kernel_rfl) (.cons xO (by kernel_rfl) (.cons mU (by kernel_rfl) (.cons mU (by kernel_rfl) (.cons mU (by kernel_rfl) (.cons mU (by kernel_rfl) .nil))))))).conv
   (λa y hG=>⟨⟨a.1,a.2.1,a.2.2.1,a.2.2.2.1,a.2.2.2.2.1,a.2.2.2.2.2.1⟩,(),rfl,rfl,trivial⟩)
def OG(r:bA):Prop:=r.names.length<9223372036854775808/\r.others.length<9223372036854775808
set_option maxRecDepth 100000 in
theorem mI:jB Tryz.prog 93 aY OG:=
 (yF Tryz.underlying93 (by kernel_rfl) (by kernel_rfl) (.cons xO (by kernel_rfl) (.cons xO (by kernel_rfl) (.cons mU (by kernel_rfl) (.cons mU (by kernel_rfl) (.cons WA (by kernel_rfl) (.cons WA (by kernel_rfl)
   (.cons mU (by kernel_rfl) (.cons mU (by kernel_rfl) (.cons mU (by kernel_rfl) (.cons mU (by kernel_rfl) (.cons xO (by kernel_rfl) (.cons mU (by kernel_rfl) .nil))))))))))))).conv
   (λa y hG=>⟨⟨a.1,a.2.1,a.2.2.1,a.2.2.2.1,a.2.2.2.2.1,a.2.2.2.2.2.1,a.2.2.2.2.2.2.1,a.2.2.2.2.2.2.2.1,a.2.2.2.2.2.2.2.2.1,a.2.2.2.2.2.2.2.2.2.1,a.2.2.2.2.2.2.2.2.2.2.1,a.2.2.2.2.2.2.2.2.2.2.2.1⟩,(y.2.2.2.2.1,y.2.2.2.2.2.1),rfl,rfl,⟨hG.2.2.2.2.1.1,hG.2.2.2.2.2.1.1⟩⟩)
theorem aiz:jB Tryz.prog 23 (ak eP) (qw λ_=>True):=yE Tryz.underlying23 (by kernel_rfl) aix
theorem aiA:jB Tryz.prog 24 (ak eZ) (qw OE):=yE Tryz.underlying24 (by kernel_rfl) aiy
theorem aiB:jB Tryz.prog 25 (ak bP) (qw λ_=>True):=yE Tryz.underlying25 (by kernel_rfl) lI
theorem aiC:jB Tryz.prog 26 (ak aY) (qw OG):=yE Tryz.underlying26 (by kernel_rfl) mI
structure aiD(d:bE):Prop where
 w:j5 d.w
 h:j5 d.h
 holes:d.holes.length<9223372036854775808
 dJ:d.symbols.length<9223372036854775808
 regs:qw OE d.regions
 jR:d.aJ.length<9223372036854775808
 lQ:qw OG d.rules
def aiE:Enc bE:=⟨10,Value×Value×Value×Value×Value,λd y=>gu d y.1 y.2.1 y.2.2.1 y.2.2.2.1 y.2.2.2.2,λd y=>lZ d y.1 y.2.1 y.2.2.1 y.2.2.2.1 y.2.2.2.2,λ_ _=>rfl⟩
set_option maxRecDepth 100000 in
theorem aiF:jB Tryz.prog 28 aiE aiD:=
 (yF Tryz.underlying28 (by kernel_rfl) (by kernel_rfl) (.cons xO (by kernel_rfl) (.cons mU (by kernel_rfl) (.cons mU (by kernel_rfl) (.cons mU (by kernel_rfl) (.cons mU (by kernel_rfl) (.cons CO (by kernel_rfl)
   (.cons aiz (by kernel_rfl) (.cons aiA (by kernel_rfl) (.cons aiB (by kernel_rfl) (.cons aiC (by kernel_rfl) .nil))))))))))).conv
   (λa y hG=>⟨⟨a.1,a.2.1,a.2.2.1,a.2.2.2.1,a.2.2.2.2.1,a.2.2.2.2.2.1,a.2.2.2.2.2.2.1,a.2.2.2.2.2.2.2.1,a.2.2.2.2.2.2.2.2.1,a.2.2.2.2.2.2.2.2.2.1⟩,(y.2.2.2.2.2.1,y.2.2.2.2.2.2.1,y.2.2.2.2.2.2.2.1,y.2.2.2.2.2.2.2.2.1,y.2.2.2.2.2.2.2.2.2.1),rfl,rfl,
     ⟨hG.2.2.2.1,hG.2.2.2.2.1,hG.2.2.2.2.2.1.1,hG.2.2.2.2.2.2.1.1,hG.2.2.2.2.2.2.2.1,hG.2.2.2.2.2.2.2.2.1.1,hG.2.2.2.2.2.2.2.2.2.1⟩⟩)
structure aiG(g:bz):Prop where
 w:j5 g.w
 h:j5 g.h
 holes:g.holes.length<9223372036854775808
 cells:g.cells.length<9223372036854775808
def aiH:Enc bz:=⟨5,Value×Value,λg y=>iH g y.1 y.2,λg y=>jk g y.1 y.2,λ_ _=>rfl⟩
set_option maxRecDepth 100000 in
theorem aiI:jB Tryz.prog 30 aiH aiG:=
 (yF Tryz.underlying30 (by kernel_rfl) (by kernel_rfl) (.cons mU (by kernel_rfl) (.cons mU (by kernel_rfl) (.cons mU (by kernel_rfl) (.cons CO (by kernel_rfl) (.cons CO (by kernel_rfl) .nil)))))).conv
   (λa y hG=>⟨⟨a.1,a.2.1,a.2.2.1,a.2.2.2.1,a.2.2.2.2.1⟩,(y.2.2.2.1,y.2.2.2.2.1),rfl,rfl,⟨hG.2.1,hG.2.2.1,hG.2.2.2.1.1,hG.2.2.2.2.1.1⟩⟩)
abbrev KV:=Value×Value×Value×Value×Value×Value×Value×Value×Value
def aiJ:Enc bS:=⟨17,KV,λk y=>lC k y.1 y.2.1 y.2.2.1 y.2.2.2.1 y.2.2.2.2.1 y.2.2.2.2.2.1 y.2.2.2.2.2.2.1 y.2.2.2.2.2.2.2.1 y.2.2.2.2.2.2.2.2,λk y=>ku k y.1 y.2.1 y.2.2.1 y.2.2.2.1 y.2.2.2.2.1 y.2.2.2.2.2.1 y.2.2.2.2.2.2.1 y.2.2.2.2.2.2.2.1 y.2.2.2.2.2.2.2.2 [],λ_ _=>rfl⟩
set_option maxRecDepth 100000 in
theorem aiK:jB Tryz.prog 34 aiJ Jp:=
 (yF Tryz.underlying34 (by kernel_rfl) (by kernel_rfl) (.cons aiF (by kernel_rfl) (.cons aiI (by kernel_rfl) (.cons OD (by kernel_rfl) (.cons aiw (by kernel_rfl) .nil))))).conv
   (λa y hG=>⟨⟨a.1,a.2.1,a.2.2.1,a.2.2.2.1⟩,(y.1.1,y.1.2.1,y.1.2.2.1,y.1.2.2.2.1,y.1.2.2.2.2,y.2.1.1,y.2.1.2,y.2.2.1,y.2.2.2.1),rfl,rfl,
     ⟨hG.1.w,hG.1.h,hG.2.1.w,hG.2.1.h,hG.1.holes,hG.1.dJ,hG.1.regs.1,hG.1.regs.2,hG.1.jR,hG.1.lQ.1,hG.1.lQ.2,hG.2.1.holes,hG.2.1.cells,⟨hG.2.2.1.1,λl hl=>(hG.2.2.1.2 l hl).1⟩,
      ⟨hG.2.2.2.1.1,λl hl=>⟨(hG.2.2.2.1.2 l hl).1,λm hm=>((hG.2.2.2.1.2 l hl).2 m hm).1⟩⟩⟩⟩)
def akP(g:Clue):Prop:=g.values.length<9223372036854775808
set_option maxRecDepth 100000 in
theorem anr:jB Tryz.prog 60 aaH akP:=
 (yF Tryz.underlying60 (by kernel_rfl) (by kernel_rfl) (.cons mU (by kernel_rfl) (.cons mU (by kernel_rfl) (.cons CO (by kernel_rfl) .nil)))).conv (λa y hG=>⟨⟨a.1,a.2.1,a.2.2.1⟩,y.2.2.1,rfl,rfl,hG.2.2.1.1⟩)
theorem ant:jB Tryz.prog 47 (ak aaH) (qw akP):=yE Tryz.underlying47 (by kernel_rfl) anr
set_option maxRecDepth 100000 in
theorem anu:jB Tryz.prog 49 (ak aaH) aga:=
 (yF Tryz.underlying49 (by kernel_rfl) (by kernel_rfl) (.cons ant (by kernel_rfl) .nil)).conv (λa y hG=>⟨a.1,y.1,rfl,rfl,⟨hG.1.1,hG.1.2⟩⟩)
def AQ:List TypeId:=[36,34,49,22,3,28,30,31,32,9,91,23,98,24,68,25,62,26,93,47,60]
theorem aiL:∀t,t∈AQ->PlainT Tryz.prog (·∈AQ) t:=aaI (by kernel_rfl)
theorem aiM:∀t,t∈AQ->t<Tryz.prog.types.size:=λt ht=>by
 have h:200<Tryz.prog.types.size:=mD (by kernel_rfl);have h2:∀t∈AQ,Nat.ble t 200=true:=by decide
 exact CU (mD (h2 t ht)) h
theorem aiN:jL Tryz.prog 36=true:=by kernel_rfl
def aiO(s:List Int×List Int):Prop:=s.1.length<9223372036854775808/\s.2.length<9223372036854775808
def aiP:Enc (List Int×List Int):=⟨2,Value×Value,λ_ y=>[y.1,y.2],λs y=>[ai ae y.1 s.1,ai ae y.2 s.2],λ_ _=>rfl⟩
set_option maxRecDepth 100000 in
theorem rSy:jB Tryz.prog 36 aiP aiO:=
 (yF Tryz.underlying36 (by kernel_rfl) (by kernel_rfl) (.cons CO (by kernel_rfl) (.cons CO (by kernel_rfl) .nil))).conv
   (λa y hG=>⟨(a.1,a.2.1),(y.1,y.2.1),rfl,rfl,⟨hG.1.1,hG.2.1.1⟩⟩)
