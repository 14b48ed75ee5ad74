/-
  The arguments of the laws about rankings, as things; a start of the program in which its package variables read as they are laid.
-/
import Derived.Test.YtjmgkllpcidhjaaGreatDoorCards
import Derived.Test.YtjmgkllpcidhjaaGreatDoorLawN
import Derived.LaidSub
import Derived.LaidMore
import Derived.MakeChecks
import Derived.Stop.Joined
set_option linter.all false
set_option maxHeartbeats 1000000
namespace Go.Proofs.YtjmgkllpcidhjaaGreatDoor
open Go.Ideal Go.ChangeShapes Go.WideShapes Go.ChangeAt Go.RowKit Rk
theorem own:ownKnob Tryz.prog.godebug=none:=by kernel_rfl
theorem kids:Kids Tryz.prog (·<Tryz.prog.types.size):=kids_rows (by kernel_rfl) (by kernel_rfl)
theorem full:∀t e,t<Tryz.prog.types.size->Tryz.prog.underlying t=some (.slice e)->0<Tryz.prog.cellsOf e:=slices_full_of Tryz.prog (by kernel_rfl)
def jN:List TypeId:=[25,26,57,55,23,83,22,3,4,46,81]
theorem A8:∀t,t∈jN->PlainT Tryz.prog (·∈jN) t:=ZU (by kernel_rfl)
theorem small:∀t,t∈jN->t<Tryz.prog.types.size:=λt ht=>by
 have h:100<Tryz.prog.types.size:=jY (by kernel_rfl);have h2:∀t∈jN,Nat.ble t 100=true:=by decide
 exact Ey (jY (h2 t ht)) h
theorem A9:iD Tryz.prog 25=true:=by kernel_rfl
theorem Ba:iD Tryz.prog 26=false:=by kernel_rfl
theorem uh:jG Tryz.prog 3 ae C8:=aa6 Tryz.underlying3
theorem ag3:jG Tryz.prog 4 Fy (λ_=>True):=aa7 Tryz.underlying4
theorem Nv:jG Tryz.prog 22 (aI ae) (tq C8):=FU Tryz.underlying22 (by kernel_rfl) uh
set_option maxRecDepth 100000 in
theorem ag4:jG Tryz.prog 83 fw (λw=>C8 w.n):=
 (FV Tryz.underlying83 (by kernel_rfl) (by kernel_rfl) (.cons uh (by kernel_rfl) (.cons uh (by kernel_rfl) .nil))).conv (λa y hG=>⟨⟨a.1,a.2.1⟩,(),rfl,rfl,hG.2.1⟩)
theorem ag5:jG Tryz.prog 23 (aI fw) (tq λw=>C8 w.n):=FU Tryz.underlying23 (by kernel_rfl) ag4
def ag6:Enc (Int×Int):=⟨2,Unit,λx _=>[.int .i64 x.1,.int .i64 x.2],λ_ _=>[],λ_ _=>rfl⟩
set_option maxRecDepth 100000 in
theorem ag7:jG Tryz.prog 55 ag6 (λ_=>True):=
 (FV Tryz.underlying55 (by kernel_rfl) (by kernel_rfl) (.cons uh (by kernel_rfl) (.cons uh (by kernel_rfl) .nil))).conv (λa y hG=>⟨(a.1,a.2.1),(),rfl,rfl,trivial⟩)
set_option maxRecDepth 100000 in
theorem ag8:jG Tryz.prog 57 cO (λ_=>True):=
 (FV Tryz.underlying57 (by kernel_rfl) (by kernel_rfl) (.cons uh (by kernel_rfl) (.cons uh (by kernel_rfl) (.cons uh (by kernel_rfl) (.cons ag7 (by kernel_rfl) (.cons ag3 (by kernel_rfl) .nil)))))).conv
   (λa y hG=>⟨⟨a.1,a.2.1,a.2.2.1,a.2.2.2.1.1,a.2.2.2.1.2,a.2.2.2.2.1⟩,(),rfl,rfl,trivial⟩)
theorem Bb:jG Tryz.prog 26 (aI cO) (tq λ_=>True):=FU Tryz.underlying26 (by kernel_rfl) ag8
def vL:Enc Int:=⟨1,Unit,λx _=>[.int .u16 x],λ_ _=>[],λ_ _=>rfl⟩
theorem ag9{P:Program}{t:TypeId}(ht:P.underlying t=some (.int .u16)):jG P t vL (λn=>0<=n/\n<65536):=λw H d cs hz r=>by
 obtain⟨n,rfl,_,h⟩:=r.ko ht;refine⟨n,(),rfl,(λf hf=>by cases hf),?_⟩;simp only[Lit.wf,IntKind.min,IntKind.max,IntKind.signed,IntKind.bits,eG,Bi]at h;simp at h;exact⟨by omega,by omega⟩
theorem Em:iD Tryz.prog 46=false:=by kernel_rfl
theorem En:jG Tryz.prog 46 (aI vL) (tq λn=>0<=n/\n<65536):=FU Tryz.underlying46 (by kernel_rfl) (ag9 Tryz.underlying81)
structure aha(s:aT):Prop where
 w:nP s.pg
 lv:s.lv.length<9223372036854775808
 cl:s.cl.length<9223372036854775808
 pz:s.pz.length<9223372036854775808
 pg:s.pg.length<9223372036854775808
def dS:Enc aT:=⟨6,Value×Value×Value×Value,λs y=>kz s y.1 y.2.1 y.2.2.1 y.2.2.2,λs y=>[ah ae y.1 s.lv,ah ae y.2.1 s.cl,ah fw y.2.2.1 s.pg,ah ae y.2.2.2 s.pz],λ_ _=>rfl⟩
set_option maxRecDepth 100000 in
theorem Bc:jG Tryz.prog 25 dS aha:=
 (FV Tryz.underlying25 (by kernel_rfl) (by kernel_rfl) (.cons uh (by kernel_rfl) (.cons uh (by kernel_rfl) (.cons Nv (by kernel_rfl) (.cons Nv (by kernel_rfl) (.cons ag5 (by kernel_rfl) (.cons Nv (by kernel_rfl) .nil))))))).conv
   (λa y hG=>⟨⟨a.1,a.2.1,a.2.2.1,a.2.2.2.1,a.2.2.2.2.1,a.2.2.2.2.2.1⟩,(y.2.2.1,y.2.2.2.1,y.2.2.2.2.1,y.2.2.2.2.2.1),rfl,rfl,
     ⟨hG.2.2.2.2.1.2,hG.2.2.1.1,hG.2.2.2.1.1,hG.2.2.2.2.2.1.1,hG.2.2.2.2.1.1⟩⟩)
theorem cellsS{α:Type}{E:Enc α}{v:Value}{xs:List α}{w:Wd}(h:(ah E v xs).p w):cellsOf v=some [v]:=by
 rcases h with⟨_,a,c,e,_⟩|⟨b,o,f,c,cells,⟨e,_⟩,_⟩<;>(subst e;rfl)
def uj:String:= "internal\x2fstrconv.uint64pow10"
set_option maxRecDepth 100000 in
theorem Bd{W:World}(h:laidMetH Tryz.prog Rows.rankingExactSpecRow.laid W):Lib.TabIs Tryz.prog W uj .u64 Lib.pow10Tab:=by
 have h1:=h.filter (λx=>x.1==uj);have e:(Rows.rankingExactSpecRow.laid).filter (λx=>x.1==uj)=[(uj,Lib.tabData .u64 Lib.pow10Tab)]:=by kernel_rfl
 rw[e,Go.MakeChecks.laidMetH_plain _ _ _ (by kernel_rfl)]at h1;exact Lib.tabIs_of_head wT (t:=181) (e:=130) (n:=20) (by kernel_rfl) Tryz.underlying181 Tryz.underlying130 (by kernel_rfl) (by kernel_rfl) h1
set_option maxRecDepth 100000 in
theorem Be(os:Os)(args:Array Value):laidMetH Tryz.prog Rows.rankingExactSpecRow.laid ((World.doorLaid Tryz.prog 4000 os).forCall (λ_ _=>0) ⟨#[],args,[]⟩).memory:=
 laidMetH_of_parts3 (fuel:=8) (laidMet_of_run' 8 (by kernel_rfl) (by kernel_rfl)) (by kernel_rfl) (by kernel_rfl)
