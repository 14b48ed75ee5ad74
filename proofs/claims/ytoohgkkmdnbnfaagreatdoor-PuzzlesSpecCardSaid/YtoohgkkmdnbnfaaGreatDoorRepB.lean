/-
  The arguments of the laws about kinds, as things.
-/
import Derived.Test.YtoohgkkmdnbnfaaGreatDoorCards
import Derived.Test.YtoohgkkmdnbnfaaGreatDoorLibNB
import Derived.LaidMore
import Derived.Stop.Joined
set_option linter.all false
set_option maxHeartbeats 1000000
namespace Go.Proofs.YtoohgkkmdnbnfaaGreatDoor
open Go.Ideal Go.ChangeShapes Go.WideShapes Go.ChangeAt Go.RowKit Kd Canon Gph
theorem own:ownKnob Tryz.prog.godebug=none:=by kernel_rfl
theorem kids:Kids Tryz.prog (·<Tryz.prog.types.size):=kids_rows (by kernel_rfl) (by kernel_rfl)
theorem full:∀t e,t<Tryz.prog.types.size->Tryz.prog.underlying t=some (.slice e)->0<Tryz.prog.cellsOf e:=slices_full_of Tryz.prog (by kernel_rfl)
def zo:List TypeId:=[34,37,22,3,28,30,31,32,9,69,23,84,24,143,25,115,26,71,35,59,51,49,68]
theorem aft:∀t,t∈zo->PlainT Tryz.prog (·∈zo) t:=XV (by kernel_rfl)
theorem small:∀t,t∈zo->t<Tryz.prog.types.size:=λt ht=>by
 have h:200<Tryz.prog.types.size:=jD (by kernel_rfl);have h2:∀t∈zo,Nat.ble t 200=true:=by decide
 exact Nat.lt_of_le_of_lt (jD (h2 t ht)) h
theorem afu:jf Tryz.prog 34=true:=by kernel_rfl
theorem Tz:jf Tryz.prog 37=true:=by kernel_rfl
theorem afv:jf Tryz.prog 3=false:=by kernel_rfl
theorem kv:iO Tryz.prog 3 ae jK:=Y5 Tryz.underlying3
theorem vO:iO Tryz.prog 9 aN (λ_=>True):=Y6 Tryz.underlying9
theorem Eu:iO Tryz.prog 22 (aj ae) (nQ jK):=uS Tryz.underlying22 (by kernel_rfl) kv
theorem TA:iO Tryz.prog 69 (aj aN) (nQ λ_=>True):=uS Tryz.underlying69 (by kernel_rfl) vO
theorem Mh:iO Tryz.prog 31 (aj (aj ae)) (nQ (nQ jK)):=uS Tryz.underlying31 (by kernel_rfl) Eu
theorem afw:iO Tryz.prog 32 (aj (aj (aj ae))) (nQ (nQ (nQ jK))):=uS Tryz.underlying32 (by kernel_rfl) Mh
set_option maxRecDepth 100000 in
theorem afx:iO Tryz.prog 84 fu (λ_=>True):=
 (uT Tryz.underlying84 (by kernel_rfl) (by kernel_rfl) (.cons vO (by kernel_rfl) (.cons kv (by kernel_rfl) .nil))).conv (λa y hG=>⟨⟨a.1,a.2.1⟩,(),rfl,rfl,trivial⟩)
def Mi(r:lc):Prop:=r.lists.length<9223372036854775808/\∀l∈r.lists,l.length<9223372036854775808
set_option maxRecDepth 100000 in
theorem afy:iO Tryz.prog 143 dW Mi:=
 (uT Tryz.underlying143 (by kernel_rfl) (by kernel_rfl) (.cons vO (by kernel_rfl) (.cons Mh (by kernel_rfl) .nil))).conv (λa y hG=>⟨⟨a.1,a.2.1⟩,y.2.1,rfl,rfl,⟨hG.2.1.1,λl hl=>(hG.2.1.2 l hl).1⟩⟩)
set_option maxRecDepth 100000 in
theorem kG:iO Tryz.prog 115 bC (λ_=>True):=
 (uT Tryz.underlying115 (by kernel_rfl) (by kernel_rfl) (.cons vO (by kernel_rfl) (.cons vO (by kernel_rfl) (.cons kv (by kernel_rfl) (.cons kv (by kernel_rfl) (.cons kv (by kernel_rfl) (.cons kv (by kernel_rfl) .nil))))))).conv
   (λa y hG=>⟨⟨a.1,a.2.1,a.2.2.1,a.2.2.2.1,a.2.2.2.2.1,a.2.2.2.2.2.1⟩,(),rfl,rfl,trivial⟩)
def Mj(r:bM):Prop:=r.names.length<9223372036854775808/\r.others.length<9223372036854775808
set_option maxRecDepth 100000 in
theorem lg:iO Tryz.prog 71 aW Mj:=
 (uT Tryz.underlying71 (by kernel_rfl) (by kernel_rfl) (.cons vO (by kernel_rfl) (.cons vO (by kernel_rfl) (.cons kv (by kernel_rfl) (.cons kv (by kernel_rfl) (.cons TA (by kernel_rfl) (.cons TA (by kernel_rfl)
   (.cons kv (by kernel_rfl) (.cons kv (by kernel_rfl) (.cons kv (by kernel_rfl) (.cons kv (by kernel_rfl) (.cons vO (by kernel_rfl) (.cons kv (by kernel_rfl) .nil))))))))))))).conv
   (λa y hG=>⟨⟨a.1,a.2.1,a.2.2.1,a.2.2.2.1,a.2.2.2.2.1,a.2.2.2.2.2.1,a.2.2.2.2.2.2.1,a.2.2.2.2.2.2.2.1,a.2.2.2.2.2.2.2.2.1,a.2.2.2.2.2.2.2.2.2.1,a.2.2.2.2.2.2.2.2.2.2.1,a.2.2.2.2.2.2.2.2.2.2.2.1⟩,(y.2.2.2.2.1,y.2.2.2.2.2.1),rfl,rfl,⟨hG.2.2.2.2.1.1,hG.2.2.2.2.2.1.1⟩⟩)
theorem afz:iO Tryz.prog 23 (aj fu) (nQ λ_=>True):=uS Tryz.underlying23 (by kernel_rfl) afx
theorem afA:iO Tryz.prog 24 (aj dW) (nQ Mi):=uS Tryz.underlying24 (by kernel_rfl) afy
theorem afB:iO Tryz.prog 25 (aj bC) (nQ λ_=>True):=uS Tryz.underlying25 (by kernel_rfl) kG
theorem afC:iO Tryz.prog 26 (aj aW) (nQ Mj):=uS Tryz.underlying26 (by kernel_rfl) lg
structure afD(d:bq):Prop where
 w:jK d.w
 h:jK d.h
 holes:d.holes.length<9223372036854775808
 dU:d.symbols.length<9223372036854775808
 regs:nQ Mi d.regions
 ja:d.aF.length<9223372036854775808
 ko:nQ Mj d.rules
def afE:Enc bq:=⟨10,Value×Value×Value×Value×Value,λd y=>fO d y.1 y.2.1 y.2.2.1 y.2.2.2.1 y.2.2.2.2,λd y=>j6 d y.1 y.2.1 y.2.2.1 y.2.2.2.1 y.2.2.2.2,λ_ _=>rfl⟩
set_option maxRecDepth 100000 in
theorem afF:iO Tryz.prog 28 afE afD:=
 (uT Tryz.underlying28 (by kernel_rfl) (by kernel_rfl) (.cons vO (by kernel_rfl) (.cons kv (by kernel_rfl) (.cons kv (by kernel_rfl) (.cons kv (by kernel_rfl) (.cons kv (by kernel_rfl) (.cons Eu (by kernel_rfl)
   (.cons afz (by kernel_rfl) (.cons afA (by kernel_rfl) (.cons afB (by kernel_rfl) (.cons afC (by kernel_rfl) .nil))))))))))).conv
   (λa y hG=>⟨⟨a.1,a.2.1,a.2.2.1,a.2.2.2.1,a.2.2.2.2.1,a.2.2.2.2.2.1,a.2.2.2.2.2.2.1,a.2.2.2.2.2.2.2.1,a.2.2.2.2.2.2.2.2.1,a.2.2.2.2.2.2.2.2.2.1⟩,(y.2.2.2.2.2.1,y.2.2.2.2.2.2.1,y.2.2.2.2.2.2.2.1,y.2.2.2.2.2.2.2.2.1,y.2.2.2.2.2.2.2.2.2.1),rfl,rfl,
     ⟨hG.2.2.2.1,hG.2.2.2.2.1,hG.2.2.2.2.2.1.1,hG.2.2.2.2.2.2.1.1,hG.2.2.2.2.2.2.2.1,hG.2.2.2.2.2.2.2.2.1.1,hG.2.2.2.2.2.2.2.2.2.1⟩⟩)
structure afG(g:bz):Prop where
 w:jK g.w
 h:jK g.h
 holes:g.holes.length<9223372036854775808
 cells:g.cells.length<9223372036854775808
def afH:Enc bz:=⟨5,Value×Value,λg y=>iw g y.1 y.2,λg y=>iV g y.1 y.2,λ_ _=>rfl⟩
set_option maxRecDepth 100000 in
theorem afI:iO Tryz.prog 30 afH afG:=
 (uT Tryz.underlying30 (by kernel_rfl) (by kernel_rfl) (.cons kv (by kernel_rfl) (.cons kv (by kernel_rfl) (.cons kv (by kernel_rfl) (.cons Eu (by kernel_rfl) (.cons Eu (by kernel_rfl) .nil)))))).conv
   (λa y hG=>⟨⟨a.1,a.2.1,a.2.2.1,a.2.2.2.1,a.2.2.2.2.1⟩,(y.2.2.2.1,y.2.2.2.2.1),rfl,rfl,⟨hG.2.1,hG.2.2.1,hG.2.2.2.1.1,hG.2.2.2.2.1.1⟩⟩)
abbrev KV:=Value×Value×Value×Value×Value×Value×Value×Value×Value
def afJ:Enc eT:=⟨17,KV,λk y=>mD k y.1 y.2.1 y.2.2.1 y.2.2.2.1 y.2.2.2.2.1 y.2.2.2.2.2.1 y.2.2.2.2.2.2.1 y.2.2.2.2.2.2.2.1 y.2.2.2.2.2.2.2.2,λk y=>lH k y.1 y.2.1 y.2.2.1 y.2.2.2.1 y.2.2.2.2.1 y.2.2.2.2.2.1 y.2.2.2.2.2.2.1 y.2.2.2.2.2.2.2.1 y.2.2.2.2.2.2.2.2 [],λ_ _=>rfl⟩
set_option maxRecDepth 100000 in
theorem afK:iO Tryz.prog 34 afJ Bb:=
 (uT Tryz.underlying34 (by kernel_rfl) (by kernel_rfl) (.cons afF (by kernel_rfl) (.cons afI (by kernel_rfl) (.cons Mh (by kernel_rfl) (.cons afw (by kernel_rfl) .nil))))).conv
   (λa y hG=>⟨⟨a.1,a.2.1,a.2.2.1,a.2.2.2.1⟩,(y.1.1,y.1.2.1,y.1.2.2.1,y.1.2.2.2.1,y.1.2.2.2.2,y.2.1.1,y.2.1.2,y.2.2.1,y.2.2.2.1),rfl,rfl,
     ⟨hG.1.w,hG.1.h,hG.2.1.w,hG.2.1.h,hG.1.holes,hG.1.dU,hG.1.regs.1,hG.1.regs.2,hG.1.ja,hG.1.ko.1,hG.1.ko.2,hG.2.1.holes,hG.2.1.cells,⟨hG.2.2.1.1,λl hl=>(hG.2.2.1.2 l hl).1⟩,
      ⟨hG.2.2.2.1.1,λl hl=>⟨(hG.2.2.2.1.2 l hl).1,λm hm=>((hG.2.2.2.1.2 l hl).2 m hm).1⟩⟩⟩⟩)
def TB(g:Clue):Prop:=g.values.length<9223372036854775808
set_option maxRecDepth 100000 in
theorem afL:iO Tryz.prog 59 bU TB:=
 (uT Tryz.underlying59 (by kernel_rfl) (by kernel_rfl) (.cons kv (by kernel_rfl) (.cons kv (by kernel_rfl) (.cons Eu (by kernel_rfl) .nil)))).conv (λa y hG=>⟨⟨a.1,a.2.1,a.2.2.1⟩,y.2.2.1,rfl,rfl,hG.2.2.1.1⟩)
theorem afM:iO Tryz.prog 35 (aj bU) (nQ TB):=uS Tryz.underlying35 (by kernel_rfl) afL
set_option maxRecDepth 100000 in
theorem TC:iO Tryz.prog 37 (aj bU) zl:=
 (uT Tryz.underlying37 (by kernel_rfl) (by kernel_rfl) (.cons afM (by kernel_rfl) .nil)).conv (λa y hG=>⟨a.1,y.1,rfl,rfl,⟨hG.1.1,hG.1.2⟩⟩)
set_option maxRecDepth 100000 in
theorem afN(os:Os)(args:Array Value):laidMetH Tryz.prog Rows.puzzlesSpecRow.laid ((World.doorLaid Tryz.prog 4000 os).forCall (λ_ _=>0) ⟨#[],args,[]⟩).memory:=
 laidMetH_of_parts3 (fuel:=8) (laidMet_of_run' 8 (by kernel_rfl) (by kernel_rfl)) (by kernel_rfl) (by kernel_rfl)
