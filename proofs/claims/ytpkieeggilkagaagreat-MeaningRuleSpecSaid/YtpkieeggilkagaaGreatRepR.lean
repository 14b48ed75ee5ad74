/-
  Part RepR.
-/
import Derived.Test.YtpkieeggilkagaaGreatLibMR
set_option linter.all false
set_option maxHeartbeats 1000000
namespace Go.Proofs.YtpkieeggilkagaaGreat
open Go.Ideal Go.ChangeShapes Go.WideShapes Go.ChangeAt Go.RowKit Kd Canon
theorem ai5:ownKnob Tryz.prog.godebug=none:=by kernel_rfl
theorem ai6:Kids Tryz.prog (·<Tryz.prog.types.size):=kids_rows (by kernel_rfl) (by kernel_rfl)
theorem ai7:∀t e,t<Tryz.prog.types.size->Tryz.prog.underlying t=some (.slice e)->0<Tryz.prog.cellsOf e:=slices_full_of Tryz.prog (by kernel_rfl)
def Bt:List TypeId:=[34,37,22,3,28,30,31,32,9,69,23,96,24,112,25,110,26,71,35,74]
theorem ai8:∀t,t∈Bt->PlainT Tryz.prog (·∈Bt) t:=aaP (by kernel_rfl)
theorem ai9:∀t,t∈Bt->t<Tryz.prog.types.size:=λt ht=>by
 have h:200<Tryz.prog.types.size:=mI (by kernel_rfl);have h2:∀t∈Bt,Nat.ble t 200=true:=by decide
 exact Nat.lt_of_le_of_lt (mI (h2 t ht)) h
theorem aja:jG Tryz.prog 34=true:=by kernel_rfl
theorem ajb:jG Tryz.prog 37=true:=by kernel_rfl
theorem ajc:jG Tryz.prog 22=false:=by kernel_rfl
theorem ajd:jG Tryz.prog 3=false:=by kernel_rfl
theorem lM:jm Tryz.prog 3 aa kD:=ab6 Tryz.underlying3
theorem ym:jm Tryz.prog 9 bF (λ_=>True):=ab7 Tryz.underlying9
theorem Dv:jm Tryz.prog 22 (ax aa) (p9 kD):=xe Tryz.underlying22 (by kernel_rfl) lM
theorem WO:jm Tryz.prog 69 (ax bF) (p9 λ_=>True):=xe Tryz.underlying69 (by kernel_rfl) ym
theorem Pk:jm Tryz.prog 31 (ax (ax aa)) (p9 (p9 kD)):=xe Tryz.underlying31 (by kernel_rfl) Dv
theorem aje:jm Tryz.prog 32 (ax (ax (ax aa))) (p9 (p9 (p9 kD))):=xe Tryz.underlying32 (by kernel_rfl) Pk
set_option maxRecDepth 100000 in
theorem ajf:jm Tryz.prog 96 fo (λ_=>True):=
 (xk Tryz.underlying96 (by kernel_rfl) (by kernel_rfl) (.cons ym (by kernel_rfl) (.cons lM (by kernel_rfl) .nil))).conv (λa y hG=>⟨⟨a.1,a.2.1⟩,(),rfl,rfl,trivial⟩)
def Pm(r:mQ):Prop:=r.lists.length<9223372036854775808/\∀l∈r.lists,l.length<9223372036854775808
set_option maxRecDepth 100000 in
theorem ajg:jm Tryz.prog 112 fA Pm:=
 (xk Tryz.underlying112 (by kernel_rfl) (by kernel_rfl) (.cons ym (by kernel_rfl) (.cons Pk (by kernel_rfl) .nil))).conv (λa y hG=>⟨⟨a.1,a.2.1⟩,y.2.1,rfl,rfl,⟨hG.2.1.1,λl hl=>(hG.2.1.2 l hl).1⟩⟩)
set_option maxRecDepth 100000 in
theorem lW:jm Tryz.prog 110 bI (λ_=>True):=
 (xk Tryz.underlying110 (by kernel_rfl) (by kernel_rfl) (.cons ym (by kernel_rfl) (.cons ym (by kernel_rfl) (.cons lM (by kernel_rfl) (.cons lM (by kernel_rfl) (.cons lM (by kernel_rfl) (.cons lM (by kernel_rfl) .nil))))))).conv
   (λa y hG=>⟨⟨a.1,a.2.1,a.2.2.1,a.2.2.2.1,a.2.2.2.2.1,a.2.2.2.2.2.1⟩,(),rfl,rfl,trivial⟩)
def Pn(r:bB):Prop:=r.names.length<9223372036854775808/\r.others.length<9223372036854775808
set_option maxRecDepth 100000 in
theorem mR:jm Tryz.prog 71 aZ Pn:=
 (xk Tryz.underlying71 (by kernel_rfl) (by kernel_rfl) (.cons ym (by kernel_rfl) (.cons ym (by kernel_rfl) (.cons lM (by kernel_rfl) (.cons lM (by kernel_rfl) (.cons WO (by kernel_rfl) (.cons WO (by kernel_rfl)
   (.cons lM (by kernel_rfl) (.cons lM (by kernel_rfl) (.cons lM (by kernel_rfl) (.cons lM (by kernel_rfl) (.cons ym (by kernel_rfl) (.cons lM (by kernel_rfl) .nil))))))))))))).conv
   (λa y hG=>⟨⟨a.1,a.2.1,a.2.2.1,a.2.2.2.1,a.2.2.2.2.1,a.2.2.2.2.2.1,a.2.2.2.2.2.2.1,a.2.2.2.2.2.2.2.1,a.2.2.2.2.2.2.2.2.1,a.2.2.2.2.2.2.2.2.2.1,a.2.2.2.2.2.2.2.2.2.2.1,a.2.2.2.2.2.2.2.2.2.2.2.1⟩,(y.2.2.2.2.1,y.2.2.2.2.2.1),rfl,rfl,⟨hG.2.2.2.2.1.1,hG.2.2.2.2.2.1.1⟩⟩)
theorem ajh:jm Tryz.prog 23 (ax fo) (p9 λ_=>True):=xe Tryz.underlying23 (by kernel_rfl) ajf
theorem aji:jm Tryz.prog 24 (ax fA) (p9 Pm):=xe Tryz.underlying24 (by kernel_rfl) ajg
theorem ajj:jm Tryz.prog 25 (ax bI) (p9 λ_=>True):=xe Tryz.underlying25 (by kernel_rfl) lW
theorem ajk:jm Tryz.prog 26 (ax aZ) (p9 Pn):=xe Tryz.underlying26 (by kernel_rfl) mR
structure ajl(d:bG):Prop where
 w:kD d.w
 h:kD d.h
 holes:d.holes.length<9223372036854775808
 cZ:d.symbols.length<9223372036854775808
 regs:p9 Pm d.regions
 jB:d.aM.length<9223372036854775808
 jP:p9 Pn d.rules
def ajm:Enc bG:=⟨10,Value×Value×Value×Value×Value,λd y=>gI d y.1 y.2.1 y.2.2.1 y.2.2.2.1 y.2.2.2.2,λd y=>mi d y.1 y.2.1 y.2.2.1 y.2.2.2.1 y.2.2.2.2,λ_ _=>rfl⟩
set_option maxRecDepth 100000 in
theorem ajn:jm Tryz.prog 28 ajm ajl:=
 (xk Tryz.underlying28 (by kernel_rfl) (by kernel_rfl) (.cons ym (by kernel_rfl) (.cons lM (by kernel_rfl) (.cons lM (by kernel_rfl) (.cons lM (by kernel_rfl) (.cons lM (by kernel_rfl) (.cons Dv (by kernel_rfl)
   (.cons ajh (by kernel_rfl) (.cons aji (by kernel_rfl) (.cons ajj (by kernel_rfl) (.cons ajk (by kernel_rfl) .nil))))))))))).conv
   (λa y hG=>⟨⟨a.1,a.2.1,a.2.2.1,a.2.2.2.1,a.2.2.2.2.1,a.2.2.2.2.2.1,a.2.2.2.2.2.2.1,a.2.2.2.2.2.2.2.1,a.2.2.2.2.2.2.2.2.1,a.2.2.2.2.2.2.2.2.2.1⟩,(y.2.2.2.2.2.1,y.2.2.2.2.2.2.1,y.2.2.2.2.2.2.2.1,y.2.2.2.2.2.2.2.2.1,y.2.2.2.2.2.2.2.2.2.1),rfl,rfl,
     ⟨hG.2.2.2.1,hG.2.2.2.2.1,hG.2.2.2.2.2.1.1,hG.2.2.2.2.2.2.1.1,hG.2.2.2.2.2.2.2.1,hG.2.2.2.2.2.2.2.2.1.1,hG.2.2.2.2.2.2.2.2.2.1⟩⟩)
structure ajo(g:bD):Prop where
 w:kD g.w
 h:kD g.h
 holes:g.holes.length<9223372036854775808
 cells:g.cells.length<9223372036854775808
def ajp:Enc bD:=⟨5,Value×Value,λg y=>iW g y.1 y.2,λg y=>jD g y.1 y.2,λ_ _=>rfl⟩
set_option maxRecDepth 100000 in
theorem ajq:jm Tryz.prog 30 ajp ajo:=
 (xk Tryz.underlying30 (by kernel_rfl) (by kernel_rfl) (.cons lM (by kernel_rfl) (.cons lM (by kernel_rfl) (.cons lM (by kernel_rfl) (.cons Dv (by kernel_rfl) (.cons Dv (by kernel_rfl) .nil)))))).conv
   (λa y hG=>⟨⟨a.1,a.2.1,a.2.2.1,a.2.2.2.1,a.2.2.2.2.1⟩,(y.2.2.2.1,y.2.2.2.2.1),rfl,rfl,⟨hG.2.1,hG.2.2.1,hG.2.2.2.1.1,hG.2.2.2.2.1.1⟩⟩)
abbrev KV:=Value×Value×Value×Value×Value×Value×Value×Value×Value
def ajr:Enc bR:=⟨17,KV,λk y=>jq k y.1 y.2.1 y.2.2.1 y.2.2.2.1 y.2.2.2.2.1 y.2.2.2.2.2.1 y.2.2.2.2.2.2.1 y.2.2.2.2.2.2.2.1 y.2.2.2.2.2.2.2.2,λk y=>iB k y.1 y.2.1 y.2.2.1 y.2.2.2.1 y.2.2.2.2.1 y.2.2.2.2.2.1 y.2.2.2.2.2.2.1 y.2.2.2.2.2.2.2.1 y.2.2.2.2.2.2.2.2 [],λ_ _=>rfl⟩
set_option maxRecDepth 100000 in
theorem ajs:jm Tryz.prog 34 ajr F8:=
 (xk Tryz.underlying34 (by kernel_rfl) (by kernel_rfl) (.cons ajn (by kernel_rfl) (.cons ajq (by kernel_rfl) (.cons Pk (by kernel_rfl) (.cons aje (by kernel_rfl) .nil))))).conv
   (λa y hG=>⟨⟨a.1,a.2.1,a.2.2.1,a.2.2.2.1⟩,(y.1.1,y.1.2.1,y.1.2.2.1,y.1.2.2.2.1,y.1.2.2.2.2,y.2.1.1,y.2.1.2,y.2.2.1,y.2.2.2.1),rfl,rfl,
     ⟨hG.1.w,hG.1.h,hG.2.1.w,hG.2.1.h,hG.1.holes,hG.1.cZ,hG.1.regs.1,hG.1.regs.2,hG.1.jB,hG.1.jP.1,hG.1.jP.2,hG.2.1.holes,hG.2.1.cells,⟨hG.2.2.1.1,λl hl=>(hG.2.2.1.2 l hl).1⟩,
      ⟨hG.2.2.2.1.1,λl hl=>⟨(hG.2.2.2.1.2 l hl).1,λm hm=>((hG.2.2.2.1.2 l hl).2 m hm).1⟩⟩⟩⟩)
def WQ(g:Clue):Prop:=g.values.length<9223372036854775808
set_option maxRecDepth 100000 in
theorem ajt:jm Tryz.prog 74 jh WQ:=
 (xk Tryz.underlying74 (by kernel_rfl) (by kernel_rfl) (.cons lM (by kernel_rfl) (.cons lM (by kernel_rfl) (.cons Dv (by kernel_rfl) .nil)))).conv (λa y hG=>⟨⟨a.1,a.2.1,a.2.2.1⟩,y.2.2.1,rfl,rfl,hG.2.2.1.1⟩)
theorem aju:jm Tryz.prog 35 (ax jh) (p9 WQ):=xe Tryz.underlying35 (by kernel_rfl) ajt
set_option maxRecDepth 100000 in
theorem ajv:jm Tryz.prog 37 (ax jh) qO:=
 (xk Tryz.underlying37 (by kernel_rfl) (by kernel_rfl) (.cons aju (by kernel_rfl) .nil)).conv (λa y hG=>⟨a.1,y.1,rfl,rfl,⟨hG.1.1,hG.1.2⟩⟩)
