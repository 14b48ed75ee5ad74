/-
  The arguments of the laws about entitlements, as things; a start of the program in which its package variables read as they are laid.
-/
import Derived.Test.YtbdaaopebgcnaaaGreatDoorCards
import Derived.Test.YtbdaaopebgcnaaaGreatDoorLibWM
import Derived.LaidSub
import Derived.LaidMore
import Derived.MakeChecks
import Derived.Stop.Joined
set_option linter.all false
set_option maxHeartbeats 1000000
namespace Go.Proofs.YtbdaaopebgcnaaaGreatDoor
open Go.Ideal Go.ChangeShapes Go.WideShapes Go.ChangeAt Go.RowKit Rk En
theorem own:ownKnob Tryz.prog.godebug=none:=by kernel_rfl
theorem kids:Kids Tryz.prog (·<Tryz.prog.types.size):=kids_rows (by kernel_rfl) (by kernel_rfl)
theorem full:∀t e,t<Tryz.prog.types.size->Tryz.prog.underlying t=some (.slice e)->0<Tryz.prog.cellsOf e:=slices_full_of Tryz.prog (by kernel_rfl)
def qH:List TypeId:=[30,31,61,39,28,103,22,3,4,57,58,32,33,55]
theorem N7:∀t,t∈qH->PlainT Tryz.prog (·∈qH) t:=aat (by kernel_rfl)
theorem small:∀t,t∈qH->t<Tryz.prog.types.size:=λt ht=>by
 have h:180<Tryz.prog.types.size:=kW (by kernel_rfl);have h2:∀t∈qH,Nat.ble t 180=true:=by decide
 exact zy (kW (h2 t ht)) h
theorem N8:iC Tryz.prog 30=true:=by kernel_rfl
theorem N9:iC Tryz.prog 31=false:=by kernel_rfl
theorem mE:jl Tryz.prog 3 ah Dh:=abB Tryz.underlying3
theorem Wv:jl Tryz.prog 4 kK (λ_=>True):=abC Tryz.underlying4
theorem Jh:iC Tryz.prog 3=false:=by kernel_rfl
theorem Oa:iC Tryz.prog 32=false:=by kernel_rfl
theorem Ob:iC Tryz.prog 33=false:=by kernel_rfl
theorem Ji:jl Tryz.prog 22 (bN ah) (xn Dh):=AO Tryz.underlying22 (by kernel_rfl) mE
set_option maxRecDepth 100000 in
theorem ah6:jl Tryz.prog 103 fP (λw=>Dh w.n):=
 (Di Tryz.underlying103 (by kernel_rfl) (by kernel_rfl) (.cons mE (by kernel_rfl) (.cons mE (by kernel_rfl) .nil))).conv (λa y hG=>⟨⟨a.1,a.2.1⟩,(),rfl,rfl,hG.2.1⟩)
theorem ah7:jl Tryz.prog 28 (bN fP) (xn λw=>Dh w.n):=AO Tryz.underlying28 (by kernel_rfl) ah6
theorem Oc:jl Tryz.prog 32 (bN kK) (xn λ_=>True):=AO Tryz.underlying32 (by kernel_rfl) Wv
set_option maxRecDepth 100000 in
theorem ah8:jl Tryz.prog 55 dS (λ_=>True):=
 (Di Tryz.underlying55 (by kernel_rfl) (by kernel_rfl) (.cons mE (by kernel_rfl) (.cons mE (by kernel_rfl) (.cons mE (by kernel_rfl) (.cons mE (by kernel_rfl) (.cons Ji (by kernel_rfl) .nil)))))).conv
   (λa y hG=>⟨⟨a.1,a.2.1,a.2.2.1,a.2.2.2.1,a.2.2.2.2.1⟩,y.2.2.2.2.1,rfl,rfl,trivial⟩)
theorem Od:jl Tryz.prog 33 (bN dS) (xn λ_=>True):=AO Tryz.underlying33 (by kernel_rfl) ah8
def ah9:Enc (Int×Int):=⟨2,Unit,λx _=>[.int .i64 x.1,.int .i64 x.2],λ_ _=>[],λ_ _=>rfl⟩
set_option maxRecDepth 100000 in
theorem aia:jl Tryz.prog 39 ah9 (λ_=>True):=
 (Di Tryz.underlying39 (by kernel_rfl) (by kernel_rfl) (.cons mE (by kernel_rfl) (.cons mE (by kernel_rfl) .nil))).conv (λa y hG=>⟨(a.1,a.2.1),(),rfl,rfl,trivial⟩)
set_option maxRecDepth 100000 in
theorem aib:jl Tryz.prog 61 aZ (λ_=>True):=
 (Di Tryz.underlying61 (by kernel_rfl) (by kernel_rfl) (.cons mE (by kernel_rfl) (.cons mE (by kernel_rfl) (.cons mE (by kernel_rfl) (.cons aia (by kernel_rfl) (.cons Wv (by kernel_rfl) .nil)))))).conv
   (λa y hG=>⟨⟨a.1,a.2.1,a.2.2.1,a.2.2.2.1.1,a.2.2.2.1.2,a.2.2.2.2.1⟩,(),rfl,rfl,trivial⟩)
theorem Oe:jl Tryz.prog 31 (bN aZ) (xn λ_=>True):=AO Tryz.underlying31 (by kernel_rfl) aib
def Jj:Enc Int:=⟨1,Unit,λx _=>[.int .u16 x],λ_ _=>[],λ_ _=>rfl⟩
theorem aic{P:Program}{t:TypeId}(ht:P.underlying t=some (.int .u16)):jl P t Jj (λn=>0<=n/\n<65536):=λw H d cs hz r=>by
 obtain⟨n,rfl,_,h⟩:=r.kJ ht;refine⟨n,(),rfl,(λf hf=>by cases hf),?_⟩;simp only[Lit.wf,IntKind.min,IntKind.max,IntKind.signed,IntKind.bits,fD,wC]at h;simp at h;exact⟨by omega,by omega⟩
theorem aid:iC Tryz.prog 57=false:=by kernel_rfl
theorem aie:jl Tryz.prog 57 (bN Jj) (xn λn=>0<=n/\n<65536):=AO Tryz.underlying57 (by kernel_rfl) (aic Tryz.underlying58)
structure aif(s:aK):Prop where
 w:qB s.pg
 lv:s.lv.length<9223372036854775808
 cl:s.cl.length<9223372036854775808
 pz:s.pz.length<9223372036854775808
 pg:s.pg.length<9223372036854775808
def jr:Enc aK:=⟨6,Value×Value×Value×Value,λs y=>jD s y.1 y.2.1 y.2.2.1 y.2.2.2,λs y=>[ae ah y.1 s.lv,ae ah y.2.1 s.cl,ae fP y.2.2.1 s.pg,ae ah y.2.2.2 s.pz],λ_ _=>rfl⟩
set_option maxRecDepth 100000 in
theorem Og:jl Tryz.prog 30 jr aif:=
 (Di Tryz.underlying30 (by kernel_rfl) (by kernel_rfl) (.cons mE (by kernel_rfl) (.cons mE (by kernel_rfl) (.cons Ji (by kernel_rfl) (.cons Ji (by kernel_rfl) (.cons ah7 (by kernel_rfl) (.cons Ji (by kernel_rfl) .nil))))))).conv
   (λa y hG=>⟨⟨a.1,a.2.1,a.2.2.1,a.2.2.2.1,a.2.2.2.2.1,a.2.2.2.2.2.1⟩,(y.2.2.1,y.2.2.2.1,y.2.2.2.2.1,y.2.2.2.2.2.1),rfl,rfl,
     ⟨hG.2.2.2.2.1.2,hG.2.2.1.1,hG.2.2.2.1.1,hG.2.2.2.2.2.1.1,hG.2.2.2.2.1.1⟩⟩)
theorem cellsS{α:Type}{E:Enc α}{v:Value}{xs:List α}{w:Wd}(h:(ae E v xs).p w):cellsOf v=some [v]:=by
 rcases h with⟨_,a,c,e,_⟩|⟨b,o,f,c,cells,⟨e,_⟩,_⟩<;>(subst e;rfl)
theorem Ww{α:Type}{l:List α}(h:l.length=5):∃a b c d e,l=[a,b,c,d,e]:=by
 match l,h with
 |[a,b,c,d,e],_=>exact⟨a,b,c,d,e,rfl⟩
theorem Jk{α:Type}{l:List α}(h:l.length=6):∃a b c d e f,l=[a,b,c,d,e,f]:=by
 match l,h with
 |[a,b,c,d,e,f],_=>exact⟨a,b,c,d,e,f,rfl⟩
def zm:String:= "internal\x2fstrconv.uint64pow10"
set_option maxRecDepth 100000 in
theorem Oh{W:World}(h:laidMetH Tryz.prog Rows.entitleExactRow.laid W):Lib.TabIs Tryz.prog W zm .u64 Lib.pow10Tab:=by
 have h1:=h.filter (λx=>x.1==zm);have e:(Rows.entitleExactRow.laid).filter (λx=>x.1==zm)=[(zm,Lib.tabData .u64 Lib.pow10Tab)]:=by kernel_rfl
 rw[e,Go.MakeChecks.laidMetH_plain _ _ _ (by kernel_rfl)]at h1;exact Lib.tabIs_of_head DU (t:=211) (e:=146) (n:=20) (by kernel_rfl) Tryz.underlying211 Tryz.underlying146 (by kernel_rfl) (by kernel_rfl) h1
set_option maxRecDepth 100000 in
theorem Oi(os:Os)(args:Array Value):laidMetH Tryz.prog Rows.entitleExactRow.laid ((World.doorLaid Tryz.prog 4000 os).forCall (λ_ _=>0) ⟨#[],args,[]⟩).memory:=
 laidMetH_of_parts3 (fuel:=8) (laidMet_of_run' 8 (by kernel_rfl) (by kernel_rfl)) (by kernel_rfl) (by kernel_rfl)
