/-
  The arguments of the laws about entitlements, as things; a start of the program in which its package variables read as they are laid.
-/
import Derived.Test.YtbdaaopebgcnaaaGreatDoorCards
import Derived.Test.YtbdaaopebgcnaaaGreatDoorLibWM
import Derived.LaidSub
import Derived.LaidMore
import Derived.MakeChecks
import Derived.Stop.Joined
set_option linter.all false
set_option maxHeartbeats 1000000
namespace Go.Proofs.YtbdaaopebgcnaaaGreatDoor
open Go.Ideal Go.ChangeShapes Go.WideShapes Go.ChangeAt Go.RowKit Rk En
theorem own:ownKnob Tryz.prog.godebug=none:=by kernel_rfl
theorem kids:Kids Tryz.prog (·<Tryz.prog.types.size):=kids_rows (by kernel_rfl) (by kernel_rfl)
theorem full:∀t e,t<Tryz.prog.types.size->Tryz.prog.underlying t=some (.slice e)->0<Tryz.prog.cellsOf e:=slices_full_of Tryz.prog (by kernel_rfl)
def xN:List TypeId:=[30,31,61,39,28,103,22,3,4,57,58,32,33,55]
theorem afn:∀t,t∈xN->PlainT Tryz.prog (·∈xN) t:=XE (by kernel_rfl)
theorem small:∀t,t∈xN->t<Tryz.prog.types.size:=λt ht=>by
 have h:180<Tryz.prog.types.size:=jW (by kernel_rfl);have h2:∀t∈xN,Nat.ble t 180=true:=by decide
 exact zU (jW (h2 t ht)) h
theorem afo:gI Tryz.prog 30=true:=by kernel_rfl
theorem afp:gI Tryz.prog 31=false:=by kernel_rfl
theorem mo:jc Tryz.prog 3 az Bt:=YO Tryz.underlying3
theorem Tm:jc Tryz.prog 4 mO (λ_=>True):=YP Tryz.underlying4
theorem Tn:gI Tryz.prog 3=false:=by kernel_rfl
theorem afq:gI Tryz.prog 32=false:=by kernel_rfl
theorem afr:gI Tryz.prog 33=false:=by kernel_rfl
theorem Gb:jc Tryz.prog 22 (bC az) (ze Bt):=Bu Tryz.underlying22 (by kernel_rfl) mo
set_option maxRecDepth 100000 in
theorem afs:jc Tryz.prog 103 iw (λw=>Bt w.n):=
 (Bv Tryz.underlying103 (by kernel_rfl) (by kernel_rfl) (.cons mo (by kernel_rfl) (.cons mo (by kernel_rfl) .nil))).conv (λa y hG=>⟨⟨a.1,a.2.1⟩,(),rfl,rfl,hG.2.1⟩)
theorem aft:jc Tryz.prog 28 (bC iw) (ze λw=>Bt w.n):=Bu Tryz.underlying28 (by kernel_rfl) afs
theorem afu:jc Tryz.prog 32 (bC mO) (ze λ_=>True):=Bu Tryz.underlying32 (by kernel_rfl) Tm
set_option maxRecDepth 100000 in
theorem afv:jc Tryz.prog 55 eF (λ_=>True):=
 (Bv Tryz.underlying55 (by kernel_rfl) (by kernel_rfl) (.cons mo (by kernel_rfl) (.cons mo (by kernel_rfl) (.cons mo (by kernel_rfl) (.cons mo (by kernel_rfl) (.cons Gb (by kernel_rfl) .nil)))))).conv
   (λa y hG=>⟨⟨a.1,a.2.1,a.2.2.1,a.2.2.2.1,a.2.2.2.2.1⟩,y.2.2.2.2.1,rfl,rfl,trivial⟩)
theorem afw:jc Tryz.prog 33 (bC eF) (ze λ_=>True):=Bu Tryz.underlying33 (by kernel_rfl) afv
def afx:Enc (Int×Int):=⟨2,Unit,λx _=>[.int .i64 x.1,.int .i64 x.2],λ_ _=>[],λ_ _=>rfl⟩
set_option maxRecDepth 100000 in
theorem afy:jc Tryz.prog 39 afx (λ_=>True):=
 (Bv Tryz.underlying39 (by kernel_rfl) (by kernel_rfl) (.cons mo (by kernel_rfl) (.cons mo (by kernel_rfl) .nil))).conv (λa y hG=>⟨(a.1,a.2.1),(),rfl,rfl,trivial⟩)
set_option maxRecDepth 100000 in
theorem afz:jc Tryz.prog 61 bR (λ_=>True):=
 (Bv Tryz.underlying61 (by kernel_rfl) (by kernel_rfl) (.cons mo (by kernel_rfl) (.cons mo (by kernel_rfl) (.cons mo (by kernel_rfl) (.cons afy (by kernel_rfl) (.cons Tm (by kernel_rfl) .nil)))))).conv
   (λa y hG=>⟨⟨a.1,a.2.1,a.2.2.1,a.2.2.2.1.1,a.2.2.2.1.2,a.2.2.2.2.1⟩,(),rfl,rfl,trivial⟩)
theorem afA:jc Tryz.prog 31 (bC bR) (ze λ_=>True):=Bu Tryz.underlying31 (by kernel_rfl) afz
structure afB(s:aJ):Prop where
 w:vZ s.pg
 lv:s.lv.length<9223372036854775808
 cl:s.cl.length<9223372036854775808
 pz:s.pz.length<9223372036854775808
 pg:s.pg.length<9223372036854775808
def uA:Enc aJ:=⟨6,Value×Value×Value×Value,λs y=>kY s y.1 y.2.1 y.2.2.1 y.2.2.2,λs y=>[ae az y.1 s.lv,ae az y.2.1 s.cl,ae iw y.2.2.1 s.pg,ae az y.2.2.2 s.pz],λ_ _=>rfl⟩
set_option maxRecDepth 100000 in
theorem afC:jc Tryz.prog 30 uA afB:=
 (Bv Tryz.underlying30 (by kernel_rfl) (by kernel_rfl) (.cons mo (by kernel_rfl) (.cons mo (by kernel_rfl) (.cons Gb (by kernel_rfl) (.cons Gb (by kernel_rfl) (.cons aft (by kernel_rfl) (.cons Gb (by kernel_rfl) .nil))))))).conv
   (λa y hG=>⟨⟨a.1,a.2.1,a.2.2.1,a.2.2.2.1,a.2.2.2.2.1,a.2.2.2.2.2.1⟩,(y.2.2.1,y.2.2.2.1,y.2.2.2.2.1,y.2.2.2.2.2.1),rfl,rfl,
     ⟨hG.2.2.2.2.1.2,hG.2.2.1.1,hG.2.2.2.1.1,hG.2.2.2.2.2.1.1,hG.2.2.2.2.1.1⟩⟩)
theorem cellsS{α:Type}{E:Enc α}{v:Value}{xs:List α}{w:Wd}(h:(ae E v xs).p w):cellsOf v=some [v]:=by
 rcases h with⟨_,a,c,e,_⟩|⟨b,o,f,c,cells,⟨e,_⟩,_⟩<;>(subst e;rfl)
theorem Tp{α:Type}{l:List α}(h:l.length=6):∃a b c d e f,l=[a,b,c,d,e,f]:=by
 match l,h with
 |[a,b,c,d,e,f],_=>exact⟨a,b,c,d,e,f,rfl⟩
def Cw:String:= "internal\x2fstrconv.uint64pow10"
set_option maxRecDepth 100000 in
theorem afD{W:World}(h:laidMetH Tryz.prog Rows.entitleExactRow.laid W):Lib.TabIs Tryz.prog W Cw .u64 Lib.pow10Tab:=by
 have h1:=h.filter (λx=>x.1==Cw);have e:(Rows.entitleExactRow.laid).filter (λx=>x.1==Cw)=[(Cw,Lib.tabData .u64 Lib.pow10Tab)]:=by kernel_rfl
 rw[e,Go.MakeChecks.laidMetH_plain _ _ _ (by kernel_rfl)]at h1;exact Lib.tabIs_of_head Kb (t:=211) (e:=146) (n:=20) (by kernel_rfl) Tryz.underlying211 Tryz.underlying146 (by kernel_rfl) (by kernel_rfl) h1
set_option maxRecDepth 100000 in
theorem afE(os:Os)(args:Array Value):laidMetH Tryz.prog Rows.entitleExactRow.laid ((World.doorLaid Tryz.prog 4000 os).forCall (λ_ _=>0) ⟨#[],args,[]⟩).memory:=
 laidMetH_of_parts3 (fuel:=8) (laidMet_of_run' 8 (by kernel_rfl) (by kernel_rfl)) (by kernel_rfl) (by kernel_rfl)
