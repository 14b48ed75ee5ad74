/- Part. -/
import Derived.Test.YtignbinlipkmfaaGreatDoorLibDK
import Derived.Test.YtignbinlipkmfaaGreatDoorShelfS
import Derived.Test.YtignbinlipkmfaaGreatDoorIdealPK
set_option linter.all false
set_option maxRecDepth 10000
set_option maxHeartbeats 4000000
namespace Go.Proofs.YtignbinlipkmfaaGreatDoor
open Tryz (prog)
open Go.Ideal Kd
noncomputable def Zc:=oQ prog 345
def amq:lD prog 345=some Zc:=tv
def amr:∀a b:ByteArray,gJ a=gJ b->a=b:=λa b h=>by injection h
def ams:O7 prog 345:=λblk off cap zs w h1 h2 h3=>by
 have h:=Any.slices_Sort_string Tryz.lays190 blk off cap (zs.map λz=>z.data.toList) w h1 h2 (by rw[bZ];exact h3);rw[bZ]at h;exact h
def amt:∃fn body,prog.funcs[345]? =some fn/\fn.body=some body/\fn.name≠ "runtime.NumGoroutine" :=by
 obtain⟨fn,h1,h2⟩:=Qh.fn 345 Zc amq;have h3:prog.funcs[345]? =some fn:=h1;have h4:(fn.name== "runtime.NumGoroutine")=false:=by
  have e:(prog.funcs[345]?).map (λf=>f.name== "runtime.NumGoroutine")=some false:=tv
  exact oE
 have h5:fn.body.isSome=true:=by
  have e:(prog.funcs[345]?).map (λf=>f.body.isSome)=some true:=tv
  exact oE
 exact pC
def amu{a:ak Addr}{m:Nat}{zs:ae ByteArray}(hm:m=zs.length)(h0:0<zs.length)(hl:zs.length<4611686018427387904):
 cK prog (.func 345) [.slice a m m] [] [ap aV (.slice a m m) zs] [] (λ_:Unit=>.tuple ⟨[]⟩) (λ_=>[ap aV (.slice a m m) (o9 zs)]) (λ_=>[]) (λ_=>True):=by
 subst hm;obtain⟨fn,body,h1,h2,h3⟩:=amt;exact agK ams h1 h2 h3 h0 hl
def amv{b bm:Nat}{az:ae (ByteArray×ah)}:uQ prog (λx:ByteArray=>[gJ x]) (.func 346) [] [ptr' b] [eZ b 0 [.map (some bm)],uP gJ bm az] (λxs=>xs.Perm (az.map (·.1))):=by
 intro S inv ok step s0 DJ y1 y2 F' h0 hok hy;rw[fK,fK,dU];refine gB 346 λB w0=>?_;refine go ?_;refine Vd (b:=bm) (az:=az) (bq:=gJ) (next:=λr=>?_);refine go ?_;refine dX (λy:ae (ByteArray×ah)×S=>az.length - y.1.length) (λy=>[]) (λy=>BJ gJ r bm az y.1::inv y.2) (λ_=>[]) (λy=>ok (y.1.map (·.1)) y.2/\(∃rest,(y.1++rest).Perm az)/\∀rest,kK step s0 (y.1.map (·.1)++rest)=kK step y.2 rest) ([],s0) ⟨h0,⟨az,.refl _⟩,λ_=>rfl⟩ (body:=?_);rintro⟨jg,s⟩ ⟨hos,_,hrun⟩;dsimp only at hos hrun⊢;refine go ?_;refine Ve (b:=bm) (az:=az) (jg:=jg) (bq:=gJ) (more:=λp rem hp=>?_) (done:=λhp=>?_) amr
 .have hX:(jg.map (·.1)++p.1::rem.map (·.1)).Perm (az.map (·.1)):=by
   have:=hp.map (·.1);rw[fG,iQ]at this;exact this
  have hlen:=hp.length_eq;rw[ik,oh]at hlen;have zb:=hy _ s _ _ hos hX;refine go ?_;refine Vf (bq:=gJ) (az:=az) (jg:=jg) (p:=p) ?_;exact cD
 .exact j0
structure Rh where
 c:Option Nat
 xs:List ByteArray
abbrev Ho(b n:Nat)(ys:ae ByteArray):OA:=JP λc:ak Nat=>[pt b (.cells [gv aV.n c n]),ap aV (gv aV.n c n) ys]
variable{fn:Fn}{first captured:ae ah}{F1:ae aP}{X:ae ByteArray->Prop}
def amw(hit:uQ prog (λx:ByteArray=>[gJ x]) fn first captured F1 X)(hl:∀xs,X xs->xs.length<=1000000):
 cK prog (.func 355) [.slice none 0 0,.func fn ⟨first⟩ ⟨captured⟩] [] [] F1 (λy:Rh=>gv aV.n y.c y.xs.length) (λy=>[ap aV (gv aV.n y.c y.xs.length) y.xs]) (λ_=>[]) (λy=>X y.xs):=by
 refine JU _ (vR 355) λB w0=>?_;refine go ?_;intro b2;refine iy aV ?_;rw[show Value.slice none 0 0=gv aV.n none 0 from rfl];refine JS (λc:ak Nat=>[pt b2 (.cells [gv aV.n c 0]),ap aV (gv aV.n c 0) ([]:ae ByteArray)]) none (h:=?_);refine DR (A:=Ho b2 0 ([]:ae ByteArray)) (A':=Ho b2 ([]:ae ByteArray).length ([]:ae ByteArray)) rfl ?_;refine Gd (Z:=Nat) (λ(ys:ae ByteArray) (x:ByteArray)=>(ys++[x],Out.normal)) (λys=>[Ho b2 ys.length ys]) (λvs ys=>ys=vs) [] _ (λ_ _=>[]) rfl (λvs s x rest hs hX _=>by rw[hs]) hit B9 ?_ ?_ (λ_ _=>trivial)
 .intro vs s x rest z lo L B w0 hs hx;subst hs;dsimp only[List.cons_append,List.nil_append];have hlen:s.length<=1000000:=by have:=hl _ hx;rw[ik,oh]at this;omega
  refine JR (h:=λc=>?_);generalize hv:gv aV.n c s.length=v;refine go ?_;intro b10;refine agM (xs:=s) aV x () tr (next:=λcb=>?_);refine go ?_;rw[show Value.slice (some ⟨cb,0,some aV.n⟩) (s.length+1) (s.length+1)=gv aV.n (some cb) (s.length+1)from rfl];refine JS (λc:ak Nat=>[pt b2 (.cells [gv aV.n c (s.length+1)]),ap aV (gv aV.n c (s.length+1)) (s++[x])]) (some cb) (h:=?_);refine DR (A:=Ho b2 (s.length+1) (s++[x])) (A':=Ho b2 (s++[x]).length (s++[x])) (by rw[ik,vI]) ?_;exact mL
 .intro r xs hX;have hrun:∀(ys zs:ae ByteArray),oF (λ(ys:ae ByteArray) (x:ByteArray)=>(ys++[x],Out.normal)) ys zs=(ys++zs,.normal):=by
   exact mm
  rw[hrun,dU];dsimp only[List.cons_append,List.nil_append];refine JR (h:=λc=>?_);generalize hv:gv aV.n c xs.length=v;refine go ?_;subst hv;exact F5 ⟨c,xs⟩ (hv:=rfl) (hp:=hX)
def amx(hit:uQ prog (λx:ByteArray=>[gJ x]) fn first captured F1 X)(hl:∀xs,X xs->xs.length<=1000000):
 cK prog (.func 344) [.func fn ⟨first⟩ ⟨captured⟩] [] [] F1 (λy:Rh=>gv aV.n y.c y.xs.length) (λy=>[ap aV (gv aV.n y.c y.xs.length) y.xs]) (λ_=>[]) (λy=>X y.xs):=by
 refine gB 344 λB w0=>?_;refine gC (amw hit hl) λy hy=>?_;dsimp only[List.cons_append,List.nil_append];refine go ?_;exact gQ y hy
def amy(hit:uQ prog (λx:ByteArray=>[gJ x]) fn first captured F1 X)(hl:∀xs,X xs->0<xs.length/\xs.length<=1000000):
 cK prog (.func 325) [.func fn ⟨first⟩ ⟨captured⟩] [] [] F1 (λy:Rh=>gv aV.n y.c y.xs.length) (λy=>[ap aV (gv aV.n y.c y.xs.length) (o9 y.xs)]) (λ_=>[]) (λy=>X y.xs):=by
 refine gB 325 λB w0=>?_;refine gC (amx hit λxs hx=>(hl xs hx).2) λy hy=>?_;obtain⟨c,xs⟩:=y;dsimp only[List.cons_append,List.nil_append]at hy⊢;obtain⟨h0,hlen⟩:=hl _ hy;cases c with
 |none=>
  rw[show gv aV.n none xs.length=Value.slice none 0 0 from rfl];exact agN (xs:=xs) h0
 |some c=>
  rw[show gv aV.n (some c) xs.length=.slice (some ⟨c,0,some aV.n⟩) xs.length xs.length from rfl];refine gC (amu (a:=some ⟨c,0,some aV.n⟩) (zs:=xs) rfl h0 tr) λ_ _=>?_;refine go ?_;rw[show Value.slice (some ⟨c,0,some aV.n⟩) xs.length xs.length=gv aV.n (some c) xs.length from rfl];exact gQ ⟨some c,xs⟩ hy
