/- Part. -/
import Derived.Test.YtignbinlipkmfaaGreatDoorCards
import Derived.Test.YtignbinlipkmfaaGreatDoorLibHK
import Derived.LaidMore
import Derived.Stop.Joined
set_option linter.all false
set_option maxHeartbeats 1000000
namespace Go.Proofs.YtignbinlipkmfaaGreatDoor
open Go.Ideal Go.ChangeShapes Go.WideShapes Go.ChangeAt Go.RowKit Kd Canon Gph
theorem own:ownKnob Tryz.prog.godebug=none:=by kernel_rfl
theorem kids:Kids Tryz.prog (·<Tryz.prog.types.size):=kids_rows (by kernel_rfl) (by kernel_rfl)
theorem full:∀t e,t<Tryz.prog.types.size->Tryz.prog.underlying t=some (.slice e)->0<Tryz.prog.cellsOf e:=slices_full_of Tryz.prog (by kernel_rfl)
def xV:ae aC:=[34,47,41,22,3,28,30,31,32,9,59,23,158,24,130,25,173,26,61]
theorem aaK:∀t,t∈xV->PlainT Tryz.prog (·∈xV) t:=aeE (by kernel_rfl)
theorem small:∀t,t∈xV->t<Tryz.prog.types.size:=λt ht=>by
 have h:xV.all (λt=>Nat.ble (t+1) Tryz.prog.types.size)=true:=by kernel_rfl
 exact lQ (jL.1 h t ht)
theorem aaL:kH Tryz.prog 34=true:=by kernel_rfl
theorem Rm:kH Tryz.prog 47=true:=by kernel_rfl
theorem anK:kH Tryz.prog 41=true:=by kernel_rfl
theorem og:j3 Tryz.prog 3 ai lI:=afM Tryz.underlying3
theorem zq:j3 Tryz.prog 9 aV (λ_=>True):=afN Tryz.underlying9
theorem Cz:j3 Tryz.prog 22 (aA ai) (rU lI):=z8 Tryz.underlying22 (by kernel_rfl) og
theorem aaM:j3 Tryz.prog 59 (aA aV) (rU λ_=>True):=z8 Tryz.underlying59 (by kernel_rfl) zq
theorem Mj:j3 Tryz.prog 31 (aA (aA ai)) (rU (rU lI)):=z8 Tryz.underlying31 (by kernel_rfl) Cz
theorem anL:j3 Tryz.prog 32 (aA (aA (aA ai))) (rU (rU (rU lI))):=z8 Tryz.underlying32 (by kernel_rfl) Mj
set_option maxRecDepth 100000 in
theorem anM:j3 Tryz.prog 158 eT (λ_=>True):=
 (yP Tryz.underlying158 (by kernel_rfl) (by kernel_rfl) (.cons zq (by kernel_rfl) (.cons og (by kernel_rfl) .nil))).conv (λa y hG=>⟨⟨a.1,a.2.1⟩,(),rfl,rfl,trivial⟩)
def Rn(r:nR):Prop:=r.lists.length<2^63/\∀l∈r.lists,l.length<2^63
set_option maxRecDepth 100000 in
theorem anN:j3 Tryz.prog 130 fw Rn:=
 (yP Tryz.underlying130 (by kernel_rfl) (by kernel_rfl) (.cons zq (by kernel_rfl) (.cons Mj (by kernel_rfl) .nil))).conv (λa y hG=>⟨⟨a.1,a.2.1⟩,y.2.1,rfl,rfl,⟨hG.2.1.1,λl hl=>(hG.2.1.2 l hl).1⟩⟩)
set_option maxRecDepth 100000 in
theorem mR:j3 Tryz.prog 173 bV (λ_=>True):=
 (yP Tryz.underlying173 (by kernel_rfl) (by kernel_rfl) (.cons zq (by kernel_rfl) (.cons zq (by kernel_rfl) (.cons og (by kernel_rfl) (.cons og (by kernel_rfl) (.cons og (by kernel_rfl) (.cons og (by kernel_rfl) .nil))))))).conv
   (λa y hG=>⟨⟨a.1,a.2.1,a.2.2.1,a.2.2.2.1,a.2.2.2.2.1,a.2.2.2.2.2.1⟩,(),rfl,rfl,trivial⟩)
def Ro(r:bE):Prop:=r.names.length<2^63/\r.others.length<2^63
set_option maxRecDepth 100000 in
theorem nS:j3 Tryz.prog 61 bz Ro:=
 (yP Tryz.underlying61 (by kernel_rfl) (by kernel_rfl) (.cons zq (by kernel_rfl) (.cons zq (by kernel_rfl) (.cons og (by kernel_rfl) (.cons og (by kernel_rfl) (.cons aaM (by kernel_rfl) (.cons aaM (by kernel_rfl)
   (.cons og (by kernel_rfl) (.cons og (by kernel_rfl) (.cons og (by kernel_rfl) (.cons og (by kernel_rfl) (.cons zq (by kernel_rfl) (.cons og (by kernel_rfl) .nil))))))))))))).conv
   (λa y hG=>⟨⟨a.1,a.2.1,a.2.2.1,a.2.2.2.1,a.2.2.2.2.1,a.2.2.2.2.2.1,a.2.2.2.2.2.2.1,a.2.2.2.2.2.2.2.1,a.2.2.2.2.2.2.2.2.1,a.2.2.2.2.2.2.2.2.2.1,a.2.2.2.2.2.2.2.2.2.2.1,a.2.2.2.2.2.2.2.2.2.2.2.1⟩,(y.2.2.2.2.1,y.2.2.2.2.2.1),rfl,rfl,⟨hG.2.2.2.2.1.1,hG.2.2.2.2.2.1.1⟩⟩)
theorem anO:j3 Tryz.prog 23 (aA eT) (rU λ_=>True):=z8 Tryz.underlying23 (by kernel_rfl) anM
theorem anP:j3 Tryz.prog 24 (aA fw) (rU Rn):=z8 Tryz.underlying24 (by kernel_rfl) anN
theorem anQ:j3 Tryz.prog 25 (aA bV) (rU λ_=>True):=z8 Tryz.underlying25 (by kernel_rfl) mR
theorem anR:j3 Tryz.prog 26 (aA bz) (rU Ro):=z8 Tryz.underlying26 (by kernel_rfl) nS
structure anS(d:bG):Prop where
 w:lI d.w
 h:lI d.h
 holes:d.holes.length<2^63
 dG:d.symbols.length<2^63
 regs:rU Rn d.regions
 kD:d.aR.length<2^63
 l7:rU Ro d.rules
def anT:Enc bG:=⟨10,ah×ah×ah×ah×ah,λd y=>gW d y.1 y.2.1 y.2.2.1 y.2.2.2.1 y.2.2.2.2,λd y=>mH d y.1 y.2.1 y.2.2.1 y.2.2.2.1 y.2.2.2.2,λ_ _=>rfl⟩
set_option maxRecDepth 100000 in
theorem anU:j3 Tryz.prog 28 anT anS:=
 (yP Tryz.underlying28 (by kernel_rfl) (by kernel_rfl) (.cons zq (by kernel_rfl) (.cons og (by kernel_rfl) (.cons og (by kernel_rfl) (.cons og (by kernel_rfl) (.cons og (by kernel_rfl) (.cons Cz (by kernel_rfl)
   (.cons anO (by kernel_rfl) (.cons anP (by kernel_rfl) (.cons anQ (by kernel_rfl) (.cons anR (by kernel_rfl) .nil))))))))))).conv
   (λa y hG=>⟨⟨a.1,a.2.1,a.2.2.1,a.2.2.2.1,a.2.2.2.2.1,a.2.2.2.2.2.1,a.2.2.2.2.2.2.1,a.2.2.2.2.2.2.2.1,a.2.2.2.2.2.2.2.2.1,a.2.2.2.2.2.2.2.2.2.1⟩,(y.2.2.2.2.2.1,y.2.2.2.2.2.2.1,y.2.2.2.2.2.2.2.1,y.2.2.2.2.2.2.2.2.1,y.2.2.2.2.2.2.2.2.2.1),rfl,rfl,
     ⟨hG.2.2.2.1,hG.2.2.2.2.1,hG.2.2.2.2.2.1.1,hG.2.2.2.2.2.2.1.1,hG.2.2.2.2.2.2.2.1,hG.2.2.2.2.2.2.2.2.1.1,hG.2.2.2.2.2.2.2.2.2.1⟩⟩)
structure anV(g:bB):Prop where
 w:lI g.w
 h:lI g.h
 holes:g.holes.length<2^63
 cells:g.cells.length<2^63
def anW:Enc bB:=⟨5,ah×ah,λg y=>jm g y.1 y.2,λg y=>jU g y.1 y.2,λ_ _=>rfl⟩
set_option maxRecDepth 100000 in
theorem anX:j3 Tryz.prog 30 anW anV:=
 (yP Tryz.underlying30 (by kernel_rfl) (by kernel_rfl) (.cons og (by kernel_rfl) (.cons og (by kernel_rfl) (.cons og (by kernel_rfl) (.cons Cz (by kernel_rfl) (.cons Cz (by kernel_rfl) .nil)))))).conv
   (λa y hG=>⟨⟨a.1,a.2.1,a.2.2.1,a.2.2.2.1,a.2.2.2.2.1⟩,(y.2.2.2.1,y.2.2.2.2.1),rfl,rfl,⟨hG.2.1,hG.2.2.1,hG.2.2.2.1.1,hG.2.2.2.2.1.1⟩⟩)
abbrev KV:=ah×ah×ah×ah×ah×ah×ah×ah×ah
def anY:Enc bN:=⟨17,KV,λk y=>mM k y.1 y.2.1 y.2.2.1 y.2.2.2.1 y.2.2.2.2.1 y.2.2.2.2.2.1 y.2.2.2.2.2.2.1 y.2.2.2.2.2.2.2.1 y.2.2.2.2.2.2.2.2,λk y=>lN k y.1 y.2.1 y.2.2.1 y.2.2.2.1 y.2.2.2.2.1 y.2.2.2.2.2.1 y.2.2.2.2.2.2.1 y.2.2.2.2.2.2.2.1 y.2.2.2.2.2.2.2.2 [],λ_ _=>rfl⟩
set_option maxRecDepth 100000 in
theorem aaN:j3 Tryz.prog 34 anY Cn:=
 (yP Tryz.underlying34 (by kernel_rfl) (by kernel_rfl) (.cons anU (by kernel_rfl) (.cons anX (by kernel_rfl) (.cons Mj (by kernel_rfl) (.cons anL (by kernel_rfl) .nil))))).conv
   (λa y hG=>⟨⟨a.1,a.2.1,a.2.2.1,a.2.2.2.1⟩,(y.1.1,y.1.2.1,y.1.2.2.1,y.1.2.2.2.1,y.1.2.2.2.2,y.2.1.1,y.2.1.2,y.2.2.1,y.2.2.2.1),rfl,rfl,
     ⟨hG.1.w,hG.1.h,hG.2.1.w,hG.2.1.h,hG.1.holes,hG.1.dG,hG.1.regs.1,hG.1.regs.2,hG.1.kD,hG.1.l7.1,hG.1.l7.2,hG.2.1.holes,hG.2.1.cells,⟨hG.2.2.1.1,λl hl=>(hG.2.2.1.2 l hl).1⟩,
      ⟨hG.2.2.2.1.1,λl hl=>⟨(hG.2.2.2.1.2 l hl).1,λm hm=>((hG.2.2.2.1.2 l hl).2 m hm).1⟩⟩⟩⟩)
def anZ(s:ae Int×ae Int):Prop:=s.1.length<2^63/\s.2.length<2^63
def an0:Enc (ae Int×ae Int):=⟨2,ah×ah,λ_ y=>[y.1,y.2],λs y=>[aj ai y.1 s.1,aj ai y.2 s.2],λ_ _=>rfl⟩
set_option maxRecDepth 100000 in
theorem Rp:j3 Tryz.prog 47 an0 anZ:=
 (yP Tryz.underlying47 (by kernel_rfl) (by kernel_rfl) (.cons Cz (by kernel_rfl) (.cons Cz (by kernel_rfl) .nil))).conv
   (λa y hG=>⟨(a.1,a.2.1),(y.1,y.2.1),rfl,rfl,⟨hG.1.1,hG.2.1.1⟩⟩)
structure an1(g:List (List Int)×List Int):Prop where
 len:g.1.length<2^63
 lens:∀s∈g.1,s.length<2^63
 WZ:g.2.length<2^63
def an2:Enc (ae (ae Int)×ae Int):=⟨2,ah×ah,λ_ y=>[y.1,y.2],λs y=>[aj (aA ai) y.1 s.1,aj ai y.2 s.2],λ_ _=>rfl⟩
set_option maxRecDepth 100000 in
theorem an3:j3 Tryz.prog 41 an2 an1:=
 (yP Tryz.underlying41 (by kernel_rfl) (by kernel_rfl) (.cons Mj (by kernel_rfl) (.cons Cz (by kernel_rfl) .nil))).conv
   (λa y hG=>⟨(a.1,a.2.1),(y.1,y.2.1),rfl,rfl,⟨hG.1.1,λs hs=>(hG.1.2 s hs).1,hG.2.1.1⟩⟩)
set_option maxRecDepth 100000 in
theorem aaO(os:Os)(args:Array ah):laidMetH Tryz.prog Rows.groupKeepsSpecRow.laid ((World.doorLaid Tryz.prog 4000 os).forCall (λ_ _=>0) ⟨#[],args,[]⟩).memory:=
 laidMetH_of_parts3 (fuel:=8) (laidMet_of_run' 8 (by kernel_rfl) (by kernel_rfl)) (by kernel_rfl) (by kernel_rfl)
