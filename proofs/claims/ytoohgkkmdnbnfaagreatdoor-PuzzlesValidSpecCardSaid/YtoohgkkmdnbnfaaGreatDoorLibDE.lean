/-
  Sorted strings out of a map's keys.
-/
import Derived.Test.YtoohgkkmdnbnfaaGreatDoorLibCE
import Derived.Test.YtoohgkkmdnbnfaaGreatDoorShelfS
import Derived.Test.YtoohgkkmdnbnfaaGreatDoorIdealPE
set_option linter.all false
set_option maxRecDepth 10000
set_option maxHeartbeats 4000000
namespace Go.Proofs.YtoohgkkmdnbnfaaGreatDoor
open Go.Ideal Kd
noncomputable def Sw:=tH Tryz.prog 287
theorem abL:lM Tryz.prog 287=some Sw:=by kernel_rfl
theorem abM:∀a b:ByteArray,dZ a=dZ b->a=b:=λa b h=>by injection h
theorem abN:JL Tryz.prog 287:=λblk off cap zs w h1 h2 h3=>by
 have h:=Any.slices_Sort_string Tryz.lays190 blk off cap (zs.map λz=>z.data.toList) w h1 h2 (by rw[bT];exact h3);rw[bT]at h;exact h
theorem abO:∃fn body,Tryz.prog.funcs[287]? =some fn/\fn.body=some body/\fn.name≠ "runtime.NumGoroutine" :=by
 obtain⟨fn,h1,h2⟩:=Ko.fn 287 Sw abL;have h3:Tryz.prog.funcs[287]? =some fn:=h1;have h4:(fn.name== "runtime.NumGoroutine")=false:=by
  have e:(Tryz.prog.funcs[287]?).map (λf=>f.name== "runtime.NumGoroutine")=some false:=by kernel_rfl
  rw[h3]at e;exact Option.some.inj e
 have h5:fn.body.isSome=true:=by
  have e:(Tryz.prog.funcs[287]?).map (λf=>f.body.isSome)=some true:=by kernel_rfl
  rw[h3]at e;exact Option.some.inj e
 obtain⟨body,hb⟩:=LK.1 h5;exact⟨fn,body,h3,hb,by simpa using h4⟩
theorem abP{a:Option Addr}{m:Nat}{zs:List ByteArray}(hm:m=zs.length)(h0:0<zs.length)(hl:zs.length<4611686018427387904):
 aV Tryz.prog (.func 287) [.slice a m m] [] [ap bV (.slice a m m) zs] [] (λ_:Unit=>.tuple ⟨[]⟩) (λ_=>[ap bV (.slice a m m) (lu zs)]) (λ_=>[]) (λ_=>True):=by
 subst hm;obtain⟨fn,body,h1,h2,h3⟩:=abO;exact ZH abN h1 h2 h3 h0 hl
theorem abQ{b bm:Nat}{ah:List (ByteArray×Value)}:qf Tryz.prog (λx:ByteArray=>[dZ x]) (.func 288) [] [ptr' b] [dF b 0 [.map (some bm)],qd dZ bm ah] (λxs=>xs.Perm (ah.map (·.1))):=by
 intro S inv ok step s0 sD y1 y2 F' h0 hok hy;rw[dn,dn,di];refine aS _ (aQ 288) λB w0=>?_;refine go ?_;refine Qi (b:=bm) (ah:=ah) (aP:=dZ) (next:=λr=>?_);refine go ?_;refine bJ (λy:List (ByteArray×Value)×S=>ah.length - y.1.length) (λy=>[]) (λy=>x8 dZ r bm ah y.1::inv y.2) (λ_=>[]) (λy=>ok (y.1.map (·.1)) y.2/\(∃rest,(y.1++rest).Perm ah)/\∀rest,fF step s0 (y.1.map (·.1)++rest)=fF step y.2 rest) ([],s0) ⟨h0,⟨ah,.refl _⟩,λ_=>rfl⟩ (body:=?_);rintro⟨dP,s⟩ ⟨hos,_,hrun⟩;dsimp only at hos hrun⊢;refine go ?_;refine Qj (b:=bm) (ah:=ah) (dP:=dP) (aP:=dZ) (more:=λp rem hp=>?_) (done:=λhp=>?_) abM
 ·have hX:(dP.map (·.1)++p.1::rem.map (·.1)).Perm (ah.map (·.1)):=by
   have:=hp.map (·.1);rw[dM,fG]at this;exact this
  have hlen:=hp.length_eq;rw[fK,nE]at hlen;have l7:=hy _ s _ _ hos hX;refine go ?_;refine Qk (aP:=dZ) (ah:=ah) (dP:=dP) (p:=p) ?_;refine go ?_;refine ax l7 (next:=λ_ _=>?_);cases hst:(step s p.1).2 with
  |true=>
   have hs1:step s p.1=((step s p.1).1,true):=Prod.ext rfl hst;refine go ?_;refine bi (dP++[p],(step s p.1).1) (by show ah.length - (dP++[p]).length<_;rw[fK,uR];omega) ⟨?_,⟨rem,by show((dP++[p])++rem).Perm ah;rw[dQ];exact hp⟩,λrest=>?_⟩
   ·show ok ((dP++[p]).map (·.1)) _;rw[dM];exact hok _ s _ _ hos hX hst
   ·show fF step s0 ((dP++[p]).map (·.1)++rest)=_;rw[dM,dQ,hrun];show fF step s (p.1::rest)=_;rw[fF,hs1]
  |false=>
   have hs1:step s p.1=((step s p.1).1,false):=Prod.ext rfl hst;have hr:=hrun (p.1::rem.map (·.1));rw[fF,hs1]at hr;dsimp only at hr;refine go ?_;exact aa (dP.map (·.1)++p.1::rem.map (·.1)) (hv:=rfl) (hp:=hX) (hk:=by rw[hr];exact aM.self _ _)
 ·refine go ?_;have hr:=hrun [];rw[iX]at hr;exact aa (dP.map (·.1)) (hv:=rfl) (hp:=hp.map (·.1)) (hk:=by rw[hr];apply aM.there;exact aM.all _)
structure Kv where
 c:Option Nat
 xs:List ByteArray
abbrev Di(b n:Nat)(ys:List ByteArray):OA:=Ak λc:Option Nat=>[pt b (.cells [gv bV.n c n]),ap bV (gv bV.n c n) ys]
theorem abR{fn:Fn}{first captured:List Value}{F1:List aB}{X:List ByteArray->Prop}(hit:qf Tryz.prog (λx:ByteArray=>[dZ x]) fn first captured F1 X)(hl:∀xs,X xs->xs.length<=1000000):
 aV Tryz.prog (.func 310) [.slice none 0 0,.func fn ⟨first⟩ ⟨captured⟩] [] [] F1 (λy:Kv=>gv bV.n y.c y.xs.length) (λy=>[ap bV (gv bV.n y.c y.xs.length) y.xs]) (λ_=>[]) (λy=>X y.xs):=by
 refine CG _ (aQ 310) λB w0=>?_;refine go ?_;intro b2;refine mE bV ?_;rw[show Value.slice none 0 0=gv bV.n none 0 from rfl];refine r9 (λc:Option Nat=>[pt b2 (.cells [gv bV.n c 0]),ap bV (gv bV.n c 0) ([]:List ByteArray)]) none (h:=?_);refine Ay (A:=Di b2 0 ([]:List ByteArray)) (A':=Di b2 ([]:List ByteArray).length ([]:List ByteArray)) rfl ?_;refine CR (Z:=Nat) (λ(ys:List ByteArray) (x:ByteArray)=>(ys++[x],Out.normal)) (λys=>[Di b2 ys.length ys]) (λvs ys=>ys=vs) [] _ (λ_ _=>[]) rfl (λvs s x rest hs hX _=>by rw[hs]) hit (by intro s x lo o B w0;refine go ?_;have z0:Nat:=0;exact yf z0 rfl) ?_ ?_ (λ_ _=>trivial)
 ·intro vs s x rest z lo L B w0 hs hx;subst hs;dsimp only[List.cons_append,List.nil_append];have hlen:s.length<=1000000:=by have:=hl _ hx;rw[fK,nE]at this;omega
  refine vV (h:=λc=>?_);generalize hv:gv bV.n c s.length=v;refine go ?_;intro b10;refine ZJ (xs:=s) bV x () (by omega) (next:=λcb=>?_);refine go ?_;rw[show Value.slice (some ⟨cb,0,some bV.n⟩) (s.length+1) (s.length+1)=gv bV.n (some cb) (s.length+1)from rfl];refine r9 (λc:Option Nat=>[pt b2 (.cells [gv bV.n c (s.length+1)]),ap bV (gv bV.n c (s.length+1)) (s++[x])]) (some cb) (h:=?_);refine Ay (A:=Di b2 (s.length+1) (s++[x])) (A':=Di b2 (s++[x]).length (s++[x])) (by rw[fK,uR]) ?_;exact si () rfl trivial trivial
 ·intro r xs hX;have hrun:∀(ys zs:List ByteArray),iy (λ(ys:List ByteArray) (x:ByteArray)=>(ys++[x],Out.normal)) ys zs=(ys++zs,.normal):=by
   intro ys zs;induction zs generalizing ys with
   |nil=>simp[iy]
   |cons z zs ih=>rw[iy];simp only[ih];simp
  rw[hrun,di];dsimp only[List.cons_append,List.nil_append];refine vV (h:=λc=>?_);generalize hv:gv bV.n c xs.length=v;refine go ?_;subst hv;exact Al ⟨c,xs⟩ (hv:=rfl) (hp:=hX)
theorem abS{fn:Fn}{first captured:List Value}{F1:List aB}{X:List ByteArray->Prop}(hit:qf Tryz.prog (λx:ByteArray=>[dZ x]) fn first captured F1 X)(hl:∀xs,X xs->xs.length<=1000000):
 aV Tryz.prog (.func 286) [.func fn ⟨first⟩ ⟨captured⟩] [] [] F1 (λy:Kv=>gv bV.n y.c y.xs.length) (λy=>[ap bV (gv bV.n y.c y.xs.length) y.xs]) (λ_=>[]) (λy=>X y.xs):=by
 refine aS _ (aQ 286) λB w0=>?_;refine go ?_;refine ax (abR hit hl) (next:=λy hy=>?_);dsimp only[List.cons_append,List.nil_append];refine go ?_;exact aa y (hv:=rfl) (hp:=hy)
theorem abT{fn:Fn}{first captured:List Value}{F1:List aB}{X:List ByteArray->Prop}(hit:qf Tryz.prog (λx:ByteArray=>[dZ x]) fn first captured F1 X)(hl:∀xs,X xs->0<xs.length/\xs.length<=1000000):
 aV Tryz.prog (.func 252) [.func fn ⟨first⟩ ⟨captured⟩] [] [] F1 (λy:Kv=>gv bV.n y.c y.xs.length) (λy=>[ap bV (gv bV.n y.c y.xs.length) (lu y.xs)]) (λ_=>[]) (λy=>X y.xs):=by
 refine aS _ (aQ 252) λB w0=>?_;refine go ?_;refine ax (abS hit λxs hx=>(hl xs hx).2) (next:=λy hy=>?_);obtain⟨c,xs⟩:=y;dsimp only[List.cons_append,List.nil_append]at hy⊢;obtain⟨h0,hlen⟩:=hl _ hy;cases c with
 |none=>
  rw[show gv bV.n none xs.length=Value.slice none 0 0 from rfl];exact ZK (xs:=xs) h0
 |some c=>
  rw[show gv bV.n (some c) xs.length=.slice (some ⟨c,0,some bV.n⟩) xs.length xs.length from rfl];refine go ?_;refine ax (abP (a:=some ⟨c,0,some bV.n⟩) (zs:=xs) rfl h0 (by omega)) (next:=λ_ _=>?_);refine go ?_;rw[show Value.slice (some ⟨c,0,some bV.n⟩) xs.length xs.length=gv bV.n (some c) xs.length from rfl];exact aa ⟨some c,xs⟩ (hv:=rfl) (hp:=hy)
