/- Part. -/
import Derived.Test.YtignbinlipkmfaaGreatDoorLibDR
import Derived.Test.YtignbinlipkmfaaGreatDoorShelfS
import Derived.Test.YtignbinlipkmfaaGreatDoorIdealPR
set_option linter.all false
set_option maxRecDepth 10000
set_option maxHeartbeats 4000000
namespace Go.Proofs.YtignbinlipkmfaaGreatDoor
open Tryz (prog)
open Go.Ideal Kd
noncomputable def ad8:=qd prog 345
def atO:lF prog 345=some ad8:=th
def atP:∀a b:ByteArray,fU a=fU b->a=b:=λa b h=>by injection h
def atQ:TM prog 345:=λblk off cap zs w h1 h2 h3=>by
 have h:=Any.slices_Sort_string Tryz.lays190 blk off cap (zs.map λz=>z.data.toList) w h1 h2 (by rw[bC];exact h3);rw[bC]at h;exact h
def atS:∃fn body,prog.funcs[345]? =some fn/\fn.body=some body/\fn.name≠ "runtime.NumGoroutine" :=by
 obtain⟨fn,h1,h2⟩:=PD.fn 345 ad8 atO;have h3:prog.funcs[345]? =some fn:=h1;have h4:(fn.name== "runtime.NumGoroutine")=false:=by
  have e:(prog.funcs[345]?).map (λf=>f.name== "runtime.NumGoroutine")=some false:=th
  exact jx
 have h5:fn.body.isSome=true:=by
  have e:(prog.funcs[345]?).map (λf=>f.body.isSome)=some true:=th
  exact jx
 exact jz
def atT{a:ak Addr}{m:Nat}{zs:ae ByteArray}(hm:m=zs.length)(h0:0<zs.length)(hl:zs.length<4611686018427387904):
 bG prog (.func 345) [.slice a m m] [] [ap aX (.slice a m m) zs] [] (λ_:Unit=>.tuple ⟨[]⟩) (λ_=>[ap aX (.slice a m m) (qY zs)]) (λ_=>[]) (λ_=>True):=by
 subst hm;obtain⟨fn,body,h1,h2,h3⟩:=atS;exact alR atQ h1 h2 h3 h0 hl
def atU{b bm:Nat}{aA:ae (ByteArray×ah)}:wO prog (λx:ByteArray=>[fU x]) (.func 346) [] [ptr' b] [dO b 0 [.map (some bm)],wN fU bm aA] (λxs=>xs.Perm (aA.map (·.1))):=by
 intro S inv ok step s0 zq y1 y2 F' h0 hok hy;rw[fB,fB,dP];refine gB 346 λB w0=>?_;refine go ?_;refine Zu (b:=bm) (aA:=aA) (bF:=fU) (next:=λr=>?_);refine go ?_;refine di (λy:ae (ByteArray×ah)×S=>aA.length - y.1.length) (λy=>[]) (λy=>Ep fU r bm aA y.1::inv y.2) (λ_=>[]) (λy=>ok (y.1.map (·.1)) y.2/\(∃rest,(y.1++rest).Perm aA)/\∀rest,jG step s0 (y.1.map (·.1)++rest)=jG step y.2 rest) ([],s0) ⟨h0,⟨aA,.refl _⟩,λ_=>rfl⟩ (body:=?_);rintro⟨ig,s⟩ ⟨hos,_,hrun⟩;dsimp only at hos hrun⊢;refine go ?_;refine Zv (b:=bm) (aA:=aA) (ig:=ig) (bF:=fU) (more:=λp rem hp=>?_) (done:=λhp=>?_) atP
 .have hX:(ig.map (·.1)++p.1::rem.map (·.1)).Perm (aA.map (·.1)):=by
   have:=hp.map (·.1);rw[ek,kv]at this;exact this
  have hlen:=hp.length_eq;rw[fV,uS]at hlen;have uI:=hy _ s _ _ hos hX;refine go ?_;refine Zw (bF:=fU) (aA:=aA) (ig:=ig) (p:=p) ?_;exact cI
 .exact kp
structure Wm where
 c:Option Nat
 xs:List ByteArray
abbrev K7(b n:Nat)(ys:ae ByteArray):OA:=JV λc:ak Nat=>[pt b (.cells [gv aX.n c n]),ap aX (gv aX.n c n) ys]
variable{fn:Fn}{first captured:ae ah}{F1:ae aM}{X:ae ByteArray->Prop}
def atV(hit:wO prog (λx:ByteArray=>[fU x]) fn first captured F1 X)(hl:∀xs,X xs->xs.length<=1000000):
 bG prog (.func 355) [.slice none 0 0,.func fn ⟨first⟩ ⟨captured⟩] [] [] F1 (λy:Wm=>gv aX.n y.c y.xs.length) (λy=>[ap aX (gv aX.n y.c y.xs.length) y.xs]) (λ_=>[]) (λy=>X y.xs):=by
 refine JW _ (wC 355) λB w0=>?_;refine go ?_;intro b2;refine gK aX ?_;rw[show Value.slice none 0 0=gv aX.n none 0 from rfl];refine Ay (λc:ak Nat=>[pt b2 (.cells [gv aX.n c 0]),ap aX (gv aX.n c 0) ([]:ae ByteArray)]) none (h:=?_);refine Er (A:=K7 b2 0 ([]:ae ByteArray)) (A':=K7 b2 ([]:ae ByteArray).length ([]:ae ByteArray)) rfl ?_;refine J2 (Z:=Nat) (λ(ys:ae ByteArray) (x:ByteArray)=>(ys++[x],Out.normal)) (λys=>[K7 b2 ys.length ys]) (λvs ys=>ys=vs) [] _ (λ_ _=>[]) rfl (λvs s x rest hs hX _=>by rw[hs]) hit CH ?_ ?_ (λ_ _=>trivial)
 .intro vs s x rest z lo L B w0 hs hx;subst hs;dsimp only[List.cons_append,List.nil_append];have hlen:s.length<=1000000:=by have:=hl _ hx;rw[fV,uS]at this;omega
  refine Cj (h:=λc=>?_);generalize hv:gv aX.n c s.length=v;refine go ?_;intro b10;refine OL (xs:=s) aX x () tf (next:=λcb=>?_);refine go ?_;rw[show Value.slice (some ⟨cb,0,some aX.n⟩) (s.length+1) (s.length+1)=gv aX.n (some cb) (s.length+1)from rfl];refine Ay (λc:ak Nat=>[pt b2 (.cells [gv aX.n c (s.length+1)]),ap aX (gv aX.n c (s.length+1)) (s++[x])]) (some cb) (h:=?_);refine Er (A:=K7 b2 (s.length+1) (s++[x])) (A':=K7 b2 (s++[x]).length (s++[x])) (by rw[fV,BD]) ?_;exact lE
 .intro r xs hX;have hrun:∀(ys zs:ae ByteArray),kz (λ(ys:ae ByteArray) (x:ByteArray)=>(ys++[x],Out.normal)) ys zs=(ys++zs,.normal):=by
   exact nc
  rw[hrun,dP];dsimp only[List.cons_append,List.nil_append];refine Cj (h:=λc=>?_);generalize hv:gv aX.n c xs.length=v;refine go ?_;subst hv;exact Ef ⟨c,xs⟩ (hv:=rfl) (hp:=hX)
def atW(hit:wO prog (λx:ByteArray=>[fU x]) fn first captured F1 X)(hl:∀xs,X xs->xs.length<=1000000):
 bG prog (.func 344) [.func fn ⟨first⟩ ⟨captured⟩] [] [] F1 (λy:Wm=>gv aX.n y.c y.xs.length) (λy=>[ap aX (gv aX.n y.c y.xs.length) y.xs]) (λ_=>[]) (λy=>X y.xs):=by
 refine gB 344 λB w0=>?_;refine gC (atV hit hl) λy hy=>?_;dsimp only[List.cons_append,List.nil_append];refine go ?_;exact gQ y hy
def atX(hit:wO prog (λx:ByteArray=>[fU x]) fn first captured F1 X)(hl:∀xs,X xs->0<xs.length/\xs.length<=1000000):
 bG prog (.func 325) [.func fn ⟨first⟩ ⟨captured⟩] [] [] F1 (λy:Wm=>gv aX.n y.c y.xs.length) (λy=>[ap aX (gv aX.n y.c y.xs.length) (qY y.xs)]) (λ_=>[]) (λy=>X y.xs):=by
 refine gB 325 λB w0=>?_;refine gC (atW hit λxs hx=>(hl xs hx).2) λy hy=>?_;obtain⟨c,xs⟩:=y;dsimp only[List.cons_append,List.nil_append]at hy⊢;obtain⟨h0,hlen⟩:=hl _ hy;cases c with
 |none=>
  rw[show gv aX.n none xs.length=Value.slice none 0 0 from rfl];exact aai (xs:=xs) h0
 |some c=>
  rw[show gv aX.n (some c) xs.length=.slice (some ⟨c,0,some aX.n⟩) xs.length xs.length from rfl];refine gC (atT (a:=some ⟨c,0,some aX.n⟩) (zs:=xs) rfl h0 tf) λ_ _=>?_;refine go ?_;rw[show Value.slice (some ⟨c,0,some aX.n⟩) xs.length xs.length=gv aX.n (some c) xs.length from rfl];exact gQ ⟨some c,xs⟩ hy
