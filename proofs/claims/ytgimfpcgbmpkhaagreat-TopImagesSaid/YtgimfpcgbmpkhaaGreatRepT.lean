/- Part. -/
import Derived.Test.YtgimfpcgbmpkhaaGreatLibHT
set_option linter.all false
set_option maxHeartbeats 1000000
namespace Go.Proofs.YtgimfpcgbmpkhaaGreat
open Go.Ideal Go.ChangeShapes Go.WideShapes Go.ChangeAt Go.RowKit Kd Canon
theorem atT:ownKnob Tryz.prog.godebug=none:=by kernel_rfl
theorem atU:Kids Tryz.prog (·<Tryz.prog.types.size):=kids_rows (by kernel_rfl) (by kernel_rfl)
theorem atV:∀t e,t<Tryz.prog.types.size->Tryz.prog.underlying t=some (.slice e)->0<Tryz.prog.cellsOf e:=slices_full_of Tryz.prog (by kernel_rfl)
theorem atW:kQ Tryz.prog 34=true:=by kernel_rfl
theorem atX:kQ Tryz.prog 37=true:=by kernel_rfl
theorem atY:kQ Tryz.prog 22=false:=by kernel_rfl
theorem atZ:kQ Tryz.prog 3=false:=by kernel_rfl
theorem nY:jX Tryz.prog 3 aj mK:=ajs Tryz.underlying3
theorem BL:jX Tryz.prog 9 ko (λ_=>True):=ajt Tryz.underlying9
theorem DN:jX Tryz.prog 22 (aA aj) (tu mK):=AQ Tryz.underlying22 (by kernel_rfl) nY
theorem aeK:jX Tryz.prog 88 (aA ko) (tu λ_=>True):=AQ Tryz.underlying88 (by kernel_rfl) BL
theorem WT:jX Tryz.prog 31 (aA (aA aj)) (tu (tu mK)):=AQ Tryz.underlying31 (by kernel_rfl) DN
theorem at0:jX Tryz.prog 32 (aA (aA (aA aj))) (tu (tu (tu mK))):=AQ Tryz.underlying32 (by kernel_rfl) WT
set_option maxRecDepth 100000 in
theorem at5:jX Tryz.prog 94 jO (λ_=>True):=
 (zF Tryz.underlying94 (by kernel_rfl) (by kernel_rfl) (.cons BL (by kernel_rfl) (.cons nY (by kernel_rfl) .nil))).conv (λa y hG=>⟨⟨a.1,a.2.1⟩,(),rfl,rfl,trivial⟩)
def WU(r:ru):Prop:=r.lists.length<2^63/\∀l∈r.lists,l.length<2^63
set_option maxRecDepth 100000 in
theorem at6:jX Tryz.prog 158 lJ WU:=
 (zF Tryz.underlying158 (by kernel_rfl) (by kernel_rfl) (.cons BL (by kernel_rfl) (.cons WT (by kernel_rfl) .nil))).conv (λa y hG=>⟨⟨a.1,a.2.1⟩,y.2.1,rfl,rfl,⟨hG.2.1.1,λl hl=>(hG.2.1.2 l hl).1⟩⟩)
set_option maxRecDepth 100000 in
theorem G7:jX Tryz.prog 147 eP (λ_=>True):=
 (zF Tryz.underlying147 (by kernel_rfl) (by kernel_rfl) (.cons BL (by kernel_rfl) (.cons BL (by kernel_rfl) (.cons nY (by kernel_rfl) (.cons nY (by kernel_rfl) (.cons nY (by kernel_rfl) (.cons nY (by kernel_rfl) .nil))))))).conv
   (λa y hG=>⟨⟨a.1,a.2.1,a.2.2.1,a.2.2.2.1,a.2.2.2.2.1,a.2.2.2.2.2.1⟩,(),rfl,rfl,trivial⟩)
def WV(r:bF):Prop:=r.names.length<2^63/\r.others.length<2^63
set_option maxRecDepth 100000 in
theorem yE:jX Tryz.prog 90 di WV:=
 (zF Tryz.underlying90 (by kernel_rfl) (by kernel_rfl) (.cons BL (by kernel_rfl) (.cons BL (by kernel_rfl) (.cons nY (by kernel_rfl) (.cons nY (by kernel_rfl) (.cons aeK (by kernel_rfl) (.cons aeK (by kernel_rfl)
   (.cons nY (by kernel_rfl) (.cons nY (by kernel_rfl) (.cons nY (by kernel_rfl) (.cons nY (by kernel_rfl) (.cons BL (by kernel_rfl) (.cons nY (by kernel_rfl) .nil))))))))))))).conv
   (λa y hG=>⟨⟨a.1,a.2.1,a.2.2.1,a.2.2.2.1,a.2.2.2.2.1,a.2.2.2.2.2.1,a.2.2.2.2.2.2.1,a.2.2.2.2.2.2.2.1,a.2.2.2.2.2.2.2.2.1,a.2.2.2.2.2.2.2.2.2.1,a.2.2.2.2.2.2.2.2.2.2.1,a.2.2.2.2.2.2.2.2.2.2.2.1⟩,(y.2.2.2.2.1,y.2.2.2.2.2.1),rfl,rfl,⟨hG.2.2.2.2.1.1,hG.2.2.2.2.2.1.1⟩⟩)
theorem at7:jX Tryz.prog 23 (aA jO) (tu λ_=>True):=AQ Tryz.underlying23 (by kernel_rfl) at5
theorem aua:jX Tryz.prog 24 (aA lJ) (tu WU):=AQ Tryz.underlying24 (by kernel_rfl) at6
theorem aub:jX Tryz.prog 25 (aA eP) (tu λ_=>True):=AQ Tryz.underlying25 (by kernel_rfl) G7
theorem auc:jX Tryz.prog 26 (aA di) (tu WV):=AQ Tryz.underlying26 (by kernel_rfl) yE
structure aud(d:dR):Prop where
 w:mK d.w
 h:mK d.h
 holes:d.holes.length<2^63
 eH:d.symbols.length<2^63
 regs:tu WU d.regions
 ny:d.bT.length<2^63
 oP:tu WV d.rules
def aue:Enc dR:=⟨10,ah×ah×ah×ah×ah,λd y=>oO d y.1 y.2.1 y.2.2.1 y.2.2.2.1 y.2.2.2.2,λd y=>uQ d y.1 y.2.1 y.2.2.1 y.2.2.2.1 y.2.2.2.2,λ_ _=>rfl⟩
set_option maxRecDepth 100000 in
theorem auf:jX Tryz.prog 28 aue aud:=
 (zF Tryz.underlying28 (by kernel_rfl) (by kernel_rfl) (.cons BL (by kernel_rfl) (.cons nY (by kernel_rfl) (.cons nY (by kernel_rfl) (.cons nY (by kernel_rfl) (.cons nY (by kernel_rfl) (.cons DN (by kernel_rfl)
   (.cons at7 (by kernel_rfl) (.cons aua (by kernel_rfl) (.cons aub (by kernel_rfl) (.cons auc (by kernel_rfl) .nil))))))))))).conv
   (λa y hG=>⟨⟨a.1,a.2.1,a.2.2.1,a.2.2.2.1,a.2.2.2.2.1,a.2.2.2.2.2.1,a.2.2.2.2.2.2.1,a.2.2.2.2.2.2.2.1,a.2.2.2.2.2.2.2.2.1,a.2.2.2.2.2.2.2.2.2.1⟩,(y.2.2.2.2.2.1,y.2.2.2.2.2.2.1,y.2.2.2.2.2.2.2.1,y.2.2.2.2.2.2.2.2.1,y.2.2.2.2.2.2.2.2.2.1),rfl,rfl,
     ⟨hG.2.2.2.1,hG.2.2.2.2.1,hG.2.2.2.2.2.1.1,hG.2.2.2.2.2.2.1.1,hG.2.2.2.2.2.2.2.1,hG.2.2.2.2.2.2.2.2.1.1,hG.2.2.2.2.2.2.2.2.2.1⟩⟩)
structure aug(g:bY):Prop where
 w:mK g.w
 h:mK g.h
 holes:g.holes.length<2^63
 cells:g.cells.length<2^63
def auh:Enc bY:=⟨5,ah×ah,λg y=>oG g y.1 y.2,λg y=>tY g y.1 y.2,λ_ _=>rfl⟩
set_option maxRecDepth 100000 in
theorem aui:jX Tryz.prog 30 auh aug:=
 (zF Tryz.underlying30 (by kernel_rfl) (by kernel_rfl) (.cons nY (by kernel_rfl) (.cons nY (by kernel_rfl) (.cons nY (by kernel_rfl) (.cons DN (by kernel_rfl) (.cons DN (by kernel_rfl) .nil)))))).conv
   (λa y hG=>⟨⟨a.1,a.2.1,a.2.2.1,a.2.2.2.1,a.2.2.2.2.1⟩,(y.2.2.2.1,y.2.2.2.2.1),rfl,rfl,⟨hG.2.1,hG.2.2.1,hG.2.2.2.1.1,hG.2.2.2.2.1.1⟩⟩)
abbrev KV:=ah×ah×ah×ah×ah×ah×ah×ah×ah
def auj:Enc aT:=⟨17,KV,λk y=>jE k y.1 y.2.1 y.2.2.1 y.2.2.2.1 y.2.2.2.2.1 y.2.2.2.2.2.1 y.2.2.2.2.2.2.1 y.2.2.2.2.2.2.2.1 y.2.2.2.2.2.2.2.2,λk y=>iO k y.1 y.2.1 y.2.2.1 y.2.2.2.1 y.2.2.2.2.1 y.2.2.2.2.2.1 y.2.2.2.2.2.2.1 y.2.2.2.2.2.2.2.1 y.2.2.2.2.2.2.2.2 [],λ_ _=>rfl⟩
set_option maxRecDepth 100000 in
theorem auk:jX Tryz.prog 34 auj E8:=
 (zF Tryz.underlying34 (by kernel_rfl) (by kernel_rfl) (.cons auf (by kernel_rfl) (.cons aui (by kernel_rfl) (.cons WT (by kernel_rfl) (.cons at0 (by kernel_rfl) .nil))))).conv
   (λa y hG=>⟨⟨a.1,a.2.1,a.2.2.1,a.2.2.2.1⟩,(y.1.1,y.1.2.1,y.1.2.2.1,y.1.2.2.2.1,y.1.2.2.2.2,y.2.1.1,y.2.1.2,y.2.2.1,y.2.2.2.1),rfl,rfl,
     ⟨hG.1.w,hG.1.h,hG.2.1.w,hG.2.1.h,hG.1.holes,hG.1.eH,hG.1.regs.1,hG.1.regs.2,hG.1.ny,hG.1.oP.1,hG.1.oP.2,hG.2.1.holes,hG.2.1.cells,⟨hG.2.2.1.1,λl hl=>(hG.2.2.1.2 l hl).1⟩,
      ⟨hG.2.2.2.1.1,λl hl=>⟨(hG.2.2.2.1.2 l hl).1,λm hm=>((hG.2.2.2.1.2 l hl).2 m hm).1⟩⟩⟩⟩)
def aeL(g:Clue):Prop:=g.values.length<2^63
set_option maxRecDepth 100000 in
theorem aul:jX Tryz.prog 144 bU aeL:=
 (zF Tryz.underlying144 (by kernel_rfl) (by kernel_rfl) (.cons nY (by kernel_rfl) (.cons nY (by kernel_rfl) (.cons DN (by kernel_rfl) .nil)))).conv (λa y hG=>⟨⟨a.1,a.2.1,a.2.2.1⟩,y.2.2.1,rfl,rfl,hG.2.2.1.1⟩)
theorem aum:jX Tryz.prog 35 (aA bU) (tu aeL):=AQ Tryz.underlying35 (by kernel_rfl) aul
set_option maxRecDepth 100000 in
theorem aun:jX Tryz.prog 37 (aA bU) uf:=
 (zF Tryz.underlying37 (by kernel_rfl) (by kernel_rfl) (.cons aum (by kernel_rfl) .nil)).conv (λa y hG=>⟨a.1,y.1,rfl,rfl,⟨hG.1.1,hG.1.2⟩⟩)
def Fy:ae aM:=[64,34,37,22,3,28,30,31,32,9,88,23,94,24,158,25,147,26,90,35,144]
theorem auo:∀t,t∈Fy->PlainT Tryz.prog (·∈Fy) t:=aih (by kernel_rfl)
theorem aup:∀t,t∈Fy->t<Tryz.prog.types.size:=λt ht=>by
 have h:200<Tryz.prog.types.size:=pQ (by kernel_rfl);have h2:∀t∈Fy,Nat.ble t 200=true:=by decide
 exact IY (pQ (h2 t ht)) h
theorem auq:kQ Tryz.prog 64=true:=by kernel_rfl
def aur(s:ae Int×ae Int):Prop:=s.1.length<2^63/\s.2.length<2^63
def aus:Enc (ae Int×ae Int):=⟨2,ah×ah,λ_ y=>[y.1,y.2],λs y=>[ay aj y.1 s.1,ay aj y.2 s.2],λ_ _=>rfl⟩
set_option maxRecDepth 100000 in
theorem rSy:jX Tryz.prog 64 aus aur:=
 (zF Tryz.underlying64 (by kernel_rfl) (by kernel_rfl) (.cons DN (by kernel_rfl) (.cons DN (by kernel_rfl) .nil))).conv
   (λa y hG=>⟨(a.1,a.2.1),(y.1,y.2.1),rfl,rfl,⟨hG.1.1,hG.2.1.1⟩⟩)
theorem aeM{α:Type}{l:ae α}(h:l.length=5):∃a b c d e,l=[a,b,c,d,e]:=by
 match l,h with
 |[a,b,c,d,e],_=>exact⟨a,b,c,d,e,rfl⟩
