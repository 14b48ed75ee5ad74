/-
  The arguments of the laws about rankings, as things; a start of the program in which its package variables read as they are laid.
-/
import Derived.Test.YtjmgkllpcidhjaaGreatDoorCards
import Derived.Test.YtjmgkllpcidhjaaGreatDoorLawE
import Derived.LaidSub
import Derived.LaidMore
import Derived.MakeChecks
import Derived.Stop.Joined
set_option linter.all false
set_option maxHeartbeats 1000000
namespace Go.Proofs.YtjmgkllpcidhjaaGreatDoor
open Go.Ideal Go.ChangeShapes Go.WideShapes Go.ChangeAt Go.RowKit Rk
theorem own:ownKnob Tryz.prog.godebug=none:=by kernel_rfl
theorem kids:Kids Tryz.prog (·<Tryz.prog.types.size):=kids_rows (by kernel_rfl) (by kernel_rfl)
theorem full:∀t e,t<Tryz.prog.types.size->Tryz.prog.underlying t=some (.slice e)->0<Tryz.prog.cellsOf e:=slices_full_of Tryz.prog (by kernel_rfl)
def tY:List TypeId:=[25,26,57,55,23,83,22,3,4]
theorem WO:∀t,t∈tY->PlainT Tryz.prog (·∈tY) t:=QD (by kernel_rfl)
theorem small:∀t,t∈tY->t<Tryz.prog.types.size:=λt ht=>by
 have h:100<Tryz.prog.types.size:=gY (by kernel_rfl);have h2:∀t∈tY,Nat.ble t 100=true:=by decide
 exact Nat.lt_of_le_of_lt (gY (h2 t ht)) h
theorem WQ:fu Tryz.prog 25=true:=by kernel_rfl
theorem WS:fu Tryz.prog 26=false:=by kernel_rfl
theorem Mf:fu Tryz.prog 22=false:=by kernel_rfl
theorem oD:iy Tryz.prog 3 au xW:=RZ Tryz.underlying3
theorem WT:iy Tryz.prog 4 zZ (λ_=>True):=R3 Tryz.underlying4
theorem yV:iy Tryz.prog 22 (dV au) (Ak xW):=ED Tryz.underlying22 (by kernel_rfl) oD
set_option maxRecDepth 100000 in
theorem WU:iy Tryz.prog 83 fV (λw=>xW w.n):=
 (Al Tryz.underlying83 (by kernel_rfl) (by kernel_rfl) (.cons oD (by kernel_rfl) (.cons oD (by kernel_rfl) .nil))).conv (λa y hG=>⟨⟨a.1,a.2.1⟩,(),rfl,rfl,hG.2.1⟩)
theorem WV:iy Tryz.prog 23 (dV fV) (Ak λw=>xW w.n):=ED Tryz.underlying23 (by kernel_rfl) WU
def WW:Enc (Int×Int):=⟨2,Unit,λx _=>[.int .i64 x.1,.int .i64 x.2],λ_ _=>[],λ_ _=>rfl⟩
set_option maxRecDepth 100000 in
theorem WX:iy Tryz.prog 55 WW (λ_=>True):=
 (Al Tryz.underlying55 (by kernel_rfl) (by kernel_rfl) (.cons oD (by kernel_rfl) (.cons oD (by kernel_rfl) .nil))).conv (λa y hG=>⟨(a.1,a.2.1),(),rfl,rfl,trivial⟩)
set_option maxRecDepth 100000 in
theorem WY:iy Tryz.prog 57 eH (λ_=>True):=
 (Al Tryz.underlying57 (by kernel_rfl) (by kernel_rfl) (.cons oD (by kernel_rfl) (.cons oD (by kernel_rfl) (.cons oD (by kernel_rfl) (.cons WX (by kernel_rfl) (.cons WT (by kernel_rfl) .nil)))))).conv
   (λa y hG=>⟨⟨a.1,a.2.1,a.2.2.1,a.2.2.2.1.1,a.2.2.2.1.2,a.2.2.2.2.1⟩,(),rfl,rfl,trivial⟩)
theorem WZ:iy Tryz.prog 26 (dV eH) (Ak λ_=>True):=ED Tryz.underlying26 (by kernel_rfl) WY
structure W9(s:dm):Prop where
 w:rU s.pg
 lv:s.lv.length<9223372036854775808
 cl:s.cl.length<9223372036854775808
 pz:s.pz.length<9223372036854775808
 pg:s.pg.length<9223372036854775808
def ql:Enc dm:=⟨6,Value×Value×Value×Value,λs y=>ou s y.1 y.2.1 y.2.2.1 y.2.2.2,λs y=>[ah au y.1 s.lv,ah au y.2.1 s.cl,ah fV y.2.2.1 s.pg,ah au y.2.2.2 s.pz],λ_ _=>rfl⟩
set_option maxRecDepth 100000 in
theorem Xa:iy Tryz.prog 25 ql W9:=
 (Al Tryz.underlying25 (by kernel_rfl) (by kernel_rfl) (.cons oD (by kernel_rfl) (.cons oD (by kernel_rfl) (.cons yV (by kernel_rfl) (.cons yV (by kernel_rfl) (.cons WV (by kernel_rfl) (.cons yV (by kernel_rfl) .nil))))))).conv
   (λa y hG=>⟨⟨a.1,a.2.1,a.2.2.1,a.2.2.2.1,a.2.2.2.2.1,a.2.2.2.2.2.1⟩,(y.2.2.1,y.2.2.2.1,y.2.2.2.2.1,y.2.2.2.2.2.1),rfl,rfl,
     ⟨hG.2.2.2.2.1.2,hG.2.2.1.1,hG.2.2.2.1.1,hG.2.2.2.2.2.1.1,hG.2.2.2.2.1.1⟩⟩)
theorem cellsS{α:Type}{E:Enc α}{v:Value}{xs:List α}{w:Wd}(h:(ah E v xs).p w):cellsOf v=some [v]:=by
 rcases h with⟨_,a,c,e,_⟩|⟨b,o,f,c,cells,⟨e,_⟩,_⟩<;>(subst e;rfl)
def yX:String:= "internal\x2fstrconv.uint64pow10"
set_option maxRecDepth 100000 in
theorem Xb{W:World}(h:laidMetH Tryz.prog Rows.rankingExactSpecRow.laid W):Lib.TabIs Tryz.prog W yX .u64 Lib.pow10Tab:=by
 have h1:=h.filter (λx=>x.1==yX);have e:(Rows.rankingExactSpecRow.laid).filter (λx=>x.1==yX)=[(yX,Lib.tabData .u64 Lib.pow10Tab)]:=by kernel_rfl
 rw[e,Go.MakeChecks.laidMetH_plain _ _ _ (by kernel_rfl)]at h1;exact Lib.tabIs_of_head Fq (t:=181) (e:=130) (n:=20) (by kernel_rfl) Tryz.underlying181 Tryz.underlying130 (by kernel_rfl) (by kernel_rfl) h1
set_option maxRecDepth 100000 in
theorem Xc(os:Os)(args:Array Value):laidMetH Tryz.prog Rows.rankingExactSpecRow.laid ((World.doorLaid Tryz.prog 4000 os).forCall (λ_ _=>0) ⟨#[],args,[]⟩).memory:=
 laidMetH_of_parts3 (fuel:=8) (laidMet_of_run' 8 (by kernel_rfl) (by kernel_rfl)) (by kernel_rfl) (by kernel_rfl)
