/- Part. -/
import Derived.Test.YtignbinlipkmfaaGreatDoorLibDG
import Derived.Test.YtignbinlipkmfaaGreatDoorShelfS
import Derived.Test.YtignbinlipkmfaaGreatDoorIdealPG
set_option linter.all false
set_option maxRecDepth 10000
set_option maxHeartbeats 4000000
namespace Go.Proofs.YtignbinlipkmfaaGreatDoor
open Tryz (prog)
open Go.Ideal Kd
noncomputable def aaz:=oG prog 345
def ao4:lu prog 345=some aaz:=qk
def ao5:∀a b:ByteArray,eP a=eP b->a=b:=λa b h=>by injection h
def ao6:PR prog 345:=λblk off cap zs w h1 h2 h3=>by
 have h:=Any.slices_Sort_string Tryz.lays190 blk off cap (zs.map λz=>z.data.toList) w h1 h2 (by rw[aS];exact h3);rw[aS]at h;exact h
def ao7:∃fn body,prog.funcs[345]? =some fn/\fn.body=some body/\fn.name≠ "runtime.NumGoroutine" :=by
 obtain⟨fn,h1,h2⟩:=LQ.fn 345 aaz ao4;have h3:prog.funcs[345]? =some fn:=h1;have h4:(fn.name== "runtime.NumGoroutine")=false:=by
  have e:(prog.funcs[345]?).map (λf=>f.name== "runtime.NumGoroutine")=some false:=qk
  exact fg
 have h5:fn.body.isSome=true:=by
  have e:(prog.funcs[345]?).map (λf=>f.body.isSome)=some true:=qk
  exact fg
 exact fh
def ao8{a:aj Addr}{m:Nat}{zs:ae ByteArray}(hm:m=zs.length)(h0:0<zs.length)(hl:zs.length<4611686018427387904):
 bA prog (.func 345) [.slice a m m] [] [ap dF (.slice a m m) zs] [] (λ_:Unit=>.tuple ⟨[]⟩) (λ_=>[ap dF (.slice a m m) (oQ zs)]) (λ_=>[]) (λ_=>True):=by
 subst hm;obtain⟨fn,body,h1,h2,h3⟩:=ao7;exact aim ao6 h1 h2 h3 h0 hl
def ao9{b bm:Nat}{ay:ae (ByteArray×ah)}:uL prog (λx:ByteArray=>[eP x]) (.func 346) [] [ptr' b] [dx b 0 [.map (some bm)],uK eP bm ay] (λxs=>xs.Perm (ay.map (·.1))):=by
 intro S inv ok step s0 xG y1 y2 F' h0 hok hy;rw[fG,fG,dW];refine gB 346 λB w0=>?_;refine go ?_;refine V5 (b:=bm) (ay:=ay) (aW:=eP) (next:=λr=>?_);refine go ?_;refine dS (λy:ae (ByteArray×ah)×S=>ay.length - y.1.length) (λy=>[]) (λy=>Cx eP r bm ay y.1::inv y.2) (λ_=>[]) (λy=>ok (y.1.map (·.1)) y.2/\(∃rest,(y.1++rest).Perm ay)/\∀rest,iG step s0 (y.1.map (·.1)++rest)=iG step y.2 rest) ([],s0) ⟨h0,⟨ay,.refl _⟩,λ_=>rfl⟩ (body:=?_);rintro⟨fI,s⟩ ⟨hos,_,hrun⟩;dsimp only at hos hrun⊢;refine go ?_;refine V6 (b:=bm) (ay:=ay) (fI:=fI) (aW:=eP) (more:=λp rem hp=>?_) (done:=λhp=>?_) ao5
 .have hX:(fI.map (·.1)++p.1::rem.map (·.1)).Perm (ay.map (·.1)):=by
   have:=hp.map (·.1);rw[dQ,fK]at this;exact this
  have hlen:=hp.length_eq;rw[dL,lU]at hlen;have sG:=hy _ s _ _ hos hX;refine go ?_;refine V7 (aW:=eP) (ay:=ay) (fI:=fI) (p:=p) ?_;exact cC
 .exact fS
structure Sg where
 c:Option Nat
 xs:List ByteArray
abbrev IC(b n:Nat)(ys:ae ByteArray):OA:=GU λc:aj Nat=>[pt b (.cells [gv dF.n c n]),ap dF (gv dF.n c n) ys]
variable{fn:Fn}{first captured:ae ah}{F1:ae aH}{X:ae ByteArray->Prop}
def apa(hit:uL prog (λx:ByteArray=>[eP x]) fn first captured F1 X)(hl:∀xs,X xs->xs.length<=1000000):
 bA prog (.func 355) [.slice none 0 0,.func fn ⟨first⟩ ⟨captured⟩] [] [] F1 (λy:Sg=>gv dF.n y.c y.xs.length) (λy=>[ap dF (gv dF.n y.c y.xs.length) y.xs]) (λ_=>[]) (λy=>X y.xs):=by
 refine GV _ (uw 355) λB w0=>?_;refine go ?_;intro b2;refine mF dF ?_;rw[show Value.slice none 0 0=gv dF.n none 0 from rfl];refine yY (λc:aj Nat=>[pt b2 (.cells [gv dF.n c 0]),ap dF (gv dF.n c 0) ([]:ae ByteArray)]) none (h:=?_);refine Cy (A:=IC b2 0 ([]:ae ByteArray)) (A':=IC b2 ([]:ae ByteArray).length ([]:ae ByteArray)) rfl ?_;refine G5 (Z:=Nat) (λ(ys:ae ByteArray) (x:ByteArray)=>(ys++[x],Out.normal)) (λys=>[IC b2 ys.length ys]) (λvs ys=>ys=vs) [] _ (λ_ _=>[]) rfl (λvs s x rest hs hX _=>by rw[hs]) hit zj ?_ ?_ (λ_ _=>trivial)
 .intro vs s x rest z lo L B w0 hs hx;subst hs;dsimp only[List.cons_append,List.nil_append];have hlen:s.length<=1000000:=by have:=hl _ hx;rw[dL,lU]at this;omega
  refine AA (h:=λc=>?_);generalize hv:gv dF.n c s.length=v;refine go ?_;intro b10;refine K3 (xs:=s) dF x () p0 (next:=λcb=>?_);refine go ?_;rw[show Value.slice (some ⟨cb,0,some dF.n⟩) (s.length+1) (s.length+1)=gv dF.n (some cb) (s.length+1)from rfl];refine yY (λc:aj Nat=>[pt b2 (.cells [gv dF.n c (s.length+1)]),ap dF (gv dF.n c (s.length+1)) (s++[x])]) (some cb) (h:=?_);refine Cy (A:=IC b2 (s.length+1) (s++[x])) (A':=IC b2 (s++[x]).length (s++[x])) (by rw[dL,qA]) ?_;exact gj
 .intro r xs hX;have hrun:∀(ys zs:ae ByteArray),jF (λ(ys:ae ByteArray) (x:ByteArray)=>(ys++[x],Out.normal)) ys zs=(ys++zs,.normal):=by
   exact ir
  rw[hrun,dW];dsimp only[List.cons_append,List.nil_append];refine AA (h:=λc=>?_);generalize hv:gv dF.n c xs.length=v;refine go ?_;subst hv;exact Cn ⟨c,xs⟩ (hv:=rfl) (hp:=hX)
def apb(hit:uL prog (λx:ByteArray=>[eP x]) fn first captured F1 X)(hl:∀xs,X xs->xs.length<=1000000):
 bA prog (.func 344) [.func fn ⟨first⟩ ⟨captured⟩] [] [] F1 (λy:Sg=>gv dF.n y.c y.xs.length) (λy=>[ap dF (gv dF.n y.c y.xs.length) y.xs]) (λ_=>[]) (λy=>X y.xs):=by
 refine gB 344 λB w0=>?_;refine gC (apa hit hl) λy hy=>?_;dsimp only[List.cons_append,List.nil_append];refine go ?_;exact gQ y hy
def apc(hit:uL prog (λx:ByteArray=>[eP x]) fn first captured F1 X)(hl:∀xs,X xs->0<xs.length/\xs.length<=1000000):
 bA prog (.func 325) [.func fn ⟨first⟩ ⟨captured⟩] [] [] F1 (λy:Sg=>gv dF.n y.c y.xs.length) (λy=>[ap dF (gv dF.n y.c y.xs.length) (oQ y.xs)]) (λ_=>[]) (λy=>X y.xs):=by
 refine gB 325 λB w0=>?_;refine gC (apb hit λxs hx=>(hl xs hx).2) λy hy=>?_;obtain⟨c,xs⟩:=y;dsimp only[List.cons_append,List.nil_append]at hy⊢;obtain⟨h0,hlen⟩:=hl _ hy;cases c with
 |none=>
  rw[show gv dF.n none xs.length=Value.slice none 0 0 from rfl];exact Xb (xs:=xs) h0
 |some c=>
  rw[show gv dF.n (some c) xs.length=.slice (some ⟨c,0,some dF.n⟩) xs.length xs.length from rfl];refine gC (ao8 (a:=some ⟨c,0,some dF.n⟩) (zs:=xs) rfl h0 p0) λ_ _=>?_;refine go ?_;rw[show Value.slice (some ⟨c,0,some dF.n⟩) xs.length xs.length=gv dF.n (some c) xs.length from rfl];exact gQ ⟨some c,xs⟩ hy
