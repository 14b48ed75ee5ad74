/-
  The arguments of the laws about kinds, as things.
-/
import Derived.Test.YtfakljdleblkoaaGreatLibKM
set_option linter.all false
set_option maxHeartbeats 1000000
namespace Go.Proofs.YtfakljdleblkoaaGreat
open Go.Ideal Go.ChangeShapes Go.WideShapes Go.ChangeAt Go.RowKit Kd Canon
theorem Q5:ownKnob Tryz.prog.godebug=none:=by kernel_rfl
theorem Q6:Kids Tryz.prog (·<Tryz.prog.types.size):=kids_rows (by kernel_rfl) (by kernel_rfl)
theorem Q7:∀t e,t<Tryz.prog.types.size->Tryz.prog.underlying t=some (.slice e)->0<Tryz.prog.cellsOf e:=slices_full_of Tryz.prog (by kernel_rfl)
theorem Q8:jD Tryz.prog 34=true:=by kernel_rfl
theorem Q9:jD Tryz.prog 49=true:=by kernel_rfl
theorem Ra:jD Tryz.prog 22=false:=by kernel_rfl
theorem mh:jd Tryz.prog 3 ae lD:=aex Tryz.underlying3
theorem yN:jd Tryz.prog 9 ji (λ_=>True):=aey Tryz.underlying9
theorem wU:jd Tryz.prog 22 (aB ae) (qj lD):=xO Tryz.underlying22 (by kernel_rfl) mh
theorem Zq:jd Tryz.prog 91 (aB ji) (qj λ_=>True):=xO Tryz.underlying91 (by kernel_rfl) yN
theorem Rb:jd Tryz.prog 31 (aB (aB ae)) (qj (qj lD)):=xO Tryz.underlying31 (by kernel_rfl) wU
theorem alZ:jd Tryz.prog 32 (aB (aB (aB ae))) (qj (qj (qj lD))):=xO Tryz.underlying32 (by kernel_rfl) Rb
set_option maxRecDepth 100000 in
theorem al0:jd Tryz.prog 98 jF (λ_=>True):=
 (wC Tryz.underlying98 (by kernel_rfl) (by kernel_rfl) (.cons yN (by kernel_rfl) (.cons mh (by kernel_rfl) .nil))).conv (λa y hG=>⟨⟨a.1,a.2.1⟩,(),rfl,rfl,trivial⟩)
def Rc(r:oN):Prop:=r.lists.length<9223372036854775808/\∀l∈r.lists,l.length<9223372036854775808
set_option maxRecDepth 100000 in
theorem al1:jd Tryz.prog 68 kW Rc:=
 (wC Tryz.underlying68 (by kernel_rfl) (by kernel_rfl) (.cons yN (by kernel_rfl) (.cons Rb (by kernel_rfl) .nil))).conv (λa y hG=>⟨⟨a.1,a.2.1⟩,y.2.1,rfl,rfl,⟨hG.2.1.1,λl hl=>(hG.2.1.2 l hl).1⟩⟩)
set_option maxRecDepth 100000 in
theorem Dt:jd Tryz.prog 62 dX (λ_=>True):=
 (wC Tryz.underlying62 (by kernel_rfl) (by kernel_rfl) (.cons yN (by kernel_rfl) (.cons yN (by kernel_rfl) (.cons mh (by kernel_rfl) (.cons mh (by kernel_rfl) (.cons mh (by kernel_rfl) (.cons mh (by kernel_rfl) .nil))))))).conv
   (λa y hG=>⟨⟨a.1,a.2.1,a.2.2.1,a.2.2.2.1,a.2.2.2.2.1,a.2.2.2.2.2.1⟩,(),rfl,rfl,trivial⟩)
def Re(r:bV):Prop:=r.names.length<9223372036854775808/\r.others.length<9223372036854775808
set_option maxRecDepth 100000 in
theorem vB:jd Tryz.prog 93 bT Re:=
 (wC Tryz.underlying93 (by kernel_rfl) (by kernel_rfl) (.cons yN (by kernel_rfl) (.cons yN (by kernel_rfl) (.cons mh (by kernel_rfl) (.cons mh (by kernel_rfl) (.cons Zq (by kernel_rfl) (.cons Zq (by kernel_rfl)
   (.cons mh (by kernel_rfl) (.cons mh (by kernel_rfl) (.cons mh (by kernel_rfl) (.cons mh (by kernel_rfl) (.cons yN (by kernel_rfl) (.cons mh (by kernel_rfl) .nil))))))))))))).conv
   (λa y hG=>⟨⟨a.1,a.2.1,a.2.2.1,a.2.2.2.1,a.2.2.2.2.1,a.2.2.2.2.2.1,a.2.2.2.2.2.2.1,a.2.2.2.2.2.2.2.1,a.2.2.2.2.2.2.2.2.1,a.2.2.2.2.2.2.2.2.2.1,a.2.2.2.2.2.2.2.2.2.2.1,a.2.2.2.2.2.2.2.2.2.2.2.1⟩,(y.2.2.2.2.1,y.2.2.2.2.2.1),rfl,rfl,⟨hG.2.2.2.2.1.1,hG.2.2.2.2.2.1.1⟩⟩)
theorem al2:jd Tryz.prog 23 (aB jF) (qj λ_=>True):=xO Tryz.underlying23 (by kernel_rfl) al0
theorem al3:jd Tryz.prog 24 (aB kW) (qj Rc):=xO Tryz.underlying24 (by kernel_rfl) al1
theorem al4:jd Tryz.prog 25 (aB dX) (qj λ_=>True):=xO Tryz.underlying25 (by kernel_rfl) Dt
theorem al5:jd Tryz.prog 26 (aB bT) (qj Re):=xO Tryz.underlying26 (by kernel_rfl) vB
structure al6(d:dN):Prop where
 w:lD d.w
 h:lD d.h
 holes:d.holes.length<9223372036854775808
 eY:d.symbols.length<9223372036854775808
 regs:qj Rc d.regions
 mE:d.bI.length<9223372036854775808
 nX:qj Re d.rules
def al7:Enc dN:=⟨10,Value×Value×Value×Value×Value,λd y=>mP d y.1 y.2.1 y.2.2.1 y.2.2.2.1 y.2.2.2.2,λd y=>ul d y.1 y.2.1 y.2.2.1 y.2.2.2.1 y.2.2.2.2,λ_ _=>rfl⟩
set_option maxRecDepth 100000 in
theorem al8:jd Tryz.prog 28 al7 al6:=
 (wC Tryz.underlying28 (by kernel_rfl) (by kernel_rfl) (.cons yN (by kernel_rfl) (.cons mh (by kernel_rfl) (.cons mh (by kernel_rfl) (.cons mh (by kernel_rfl) (.cons mh (by kernel_rfl) (.cons wU (by kernel_rfl)
   (.cons al2 (by kernel_rfl) (.cons al3 (by kernel_rfl) (.cons al4 (by kernel_rfl) (.cons al5 (by kernel_rfl) .nil))))))))))).conv
   (λa y hG=>⟨⟨a.1,a.2.1,a.2.2.1,a.2.2.2.1,a.2.2.2.2.1,a.2.2.2.2.2.1,a.2.2.2.2.2.2.1,a.2.2.2.2.2.2.2.1,a.2.2.2.2.2.2.2.2.1,a.2.2.2.2.2.2.2.2.2.1⟩,(y.2.2.2.2.2.1,y.2.2.2.2.2.2.1,y.2.2.2.2.2.2.2.1,y.2.2.2.2.2.2.2.2.1,y.2.2.2.2.2.2.2.2.2.1),rfl,rfl,
     ⟨hG.2.2.2.1,hG.2.2.2.2.1,hG.2.2.2.2.2.1.1,hG.2.2.2.2.2.2.1.1,hG.2.2.2.2.2.2.2.1,hG.2.2.2.2.2.2.2.2.1.1,hG.2.2.2.2.2.2.2.2.2.1⟩⟩)
structure al9(g:cO):Prop where
 w:lD g.w
 h:lD g.h
 holes:g.holes.length<9223372036854775808
 cells:g.cells.length<9223372036854775808
def ama:Enc cO:=⟨5,Value×Value,λg y=>oV g y.1 y.2,λg y=>sG g y.1 y.2,λ_ _=>rfl⟩
set_option maxRecDepth 100000 in
theorem amb:jd Tryz.prog 30 ama al9:=
 (wC Tryz.underlying30 (by kernel_rfl) (by kernel_rfl) (.cons mh (by kernel_rfl) (.cons mh (by kernel_rfl) (.cons mh (by kernel_rfl) (.cons wU (by kernel_rfl) (.cons wU (by kernel_rfl) .nil)))))).conv
   (λa y hG=>⟨⟨a.1,a.2.1,a.2.2.1,a.2.2.2.1,a.2.2.2.2.1⟩,(y.2.2.2.1,y.2.2.2.2.1),rfl,rfl,⟨hG.2.1,hG.2.2.1,hG.2.2.2.1.1,hG.2.2.2.2.1.1⟩⟩)
abbrev KV:=Value×Value×Value×Value×Value×Value×Value×Value×Value
def amc:Enc aU:=⟨17,KV,λk y=>kG k y.1 y.2.1 y.2.2.1 y.2.2.2.1 y.2.2.2.2.1 y.2.2.2.2.2.1 y.2.2.2.2.2.2.1 y.2.2.2.2.2.2.2.1 y.2.2.2.2.2.2.2.2,λk y=>je k y.1 y.2.1 y.2.2.1 y.2.2.2.1 y.2.2.2.2.1 y.2.2.2.2.2.1 y.2.2.2.2.2.2.1 y.2.2.2.2.2.2.2.1 y.2.2.2.2.2.2.2.2 [],λ_ _=>rfl⟩
set_option maxRecDepth 100000 in
theorem Rf:jd Tryz.prog 34 amc BM:=
 (wC Tryz.underlying34 (by kernel_rfl) (by kernel_rfl) (.cons al8 (by kernel_rfl) (.cons amb (by kernel_rfl) (.cons Rb (by kernel_rfl) (.cons alZ (by kernel_rfl) .nil))))).conv
   (λa y hG=>⟨⟨a.1,a.2.1,a.2.2.1,a.2.2.2.1⟩,(y.1.1,y.1.2.1,y.1.2.2.1,y.1.2.2.2.1,y.1.2.2.2.2,y.2.1.1,y.2.1.2,y.2.2.1,y.2.2.2.1),rfl,rfl,
     ⟨hG.1.w,hG.1.h,hG.2.1.w,hG.2.1.h,hG.1.holes,hG.1.eY,hG.1.regs.1,hG.1.regs.2,hG.1.mE,hG.1.nX.1,hG.1.nX.2,hG.2.1.holes,hG.2.1.cells,⟨hG.2.2.1.1,λl hl=>(hG.2.2.1.2 l hl).1⟩,
      ⟨hG.2.2.2.1.1,λl hl=>⟨(hG.2.2.2.1.2 l hl).1,λm hm=>((hG.2.2.2.1.2 l hl).2 m hm).1⟩⟩⟩⟩)
def Zr(g:Clue):Prop:=g.values.length<9223372036854775808
set_option maxRecDepth 100000 in
theorem amd:jd Tryz.prog 60 bG Zr:=
 (wC Tryz.underlying60 (by kernel_rfl) (by kernel_rfl) (.cons mh (by kernel_rfl) (.cons mh (by kernel_rfl) (.cons wU (by kernel_rfl) .nil)))).conv (λa y hG=>⟨⟨a.1,a.2.1,a.2.2.1⟩,y.2.2.1,rfl,rfl,hG.2.2.1.1⟩)
theorem ame:jd Tryz.prog 47 (aB bG) (qj Zr):=xO Tryz.underlying47 (by kernel_rfl) amd
set_option maxRecDepth 100000 in
theorem Rh:jd Tryz.prog 49 (aB bG) oW:=
 (wC Tryz.underlying49 (by kernel_rfl) (by kernel_rfl) (.cons ame (by kernel_rfl) .nil)).conv (λa y hG=>⟨a.1,y.1,rfl,rfl,⟨hG.1.1,hG.1.2⟩⟩)
def sK:List TypeId:=[36,34,49,22,3,28,30,31,32,9,91,23,98,24,68,25,62,26,93,47,60]
theorem Ri:∀t,t∈sK->PlainT Tryz.prog (·∈sK) t:=adk (by kernel_rfl)
theorem Rj:∀t,t∈sK->t<Tryz.prog.types.size:=λt ht=>by
 have h:200<Tryz.prog.types.size:=mJ (by kernel_rfl);have h2:∀t∈sK,Nat.ble t 200=true:=by decide
 exact Es (mJ (h2 t ht)) h
theorem LB:jD Tryz.prog 36=true:=by kernel_rfl
def amf(s:List Int×List Int):Prop:=s.1.length<9223372036854775808/\s.2.length<9223372036854775808
def amg:Enc (List Int×List Int):=⟨2,Value×Value,λ_ y=>[y.1,y.2],λs y=>[ah ae y.1 s.1,ah ae y.2 s.2],λ_ _=>rfl⟩
set_option maxRecDepth 100000 in
theorem LC:jd Tryz.prog 36 amg amf:=
 (wC Tryz.underlying36 (by kernel_rfl) (by kernel_rfl) (.cons wU (by kernel_rfl) (.cons wU (by kernel_rfl) .nil))).conv
   (λa y hG=>⟨(a.1,a.2.1),(y.1,y.2.1),rfl,rfl,⟨hG.1.1,hG.2.1.1⟩⟩)
theorem Zt{α:Type}{l:List α}(h:l.length=5):∃a b c d e,l=[a,b,c,d,e]:=by
 match l,h with
 |[a,b,c,d,e],_=>exact⟨a,b,c,d,e,rfl⟩
