/-
  Sorted strings out of a map's keys.
-/
import Derived.Test.YtoohgkkmdnbnfaaGreatDoorLibCA
import Derived.Test.YtoohgkkmdnbnfaaGreatDoorShelfS
import Derived.Test.YtoohgkkmdnbnfaaGreatDoorIdealPA
set_option linter.all false
set_option maxRecDepth 10000
set_option maxHeartbeats 4000000
namespace Go.Proofs.YtoohgkkmdnbnfaaGreatDoor
open Go.Ideal Kd
noncomputable def UF:=sN Tryz.prog 287
theorem aex:kZ Tryz.prog 287=some UF:=by kernel_rfl
theorem aey:∀a b:ByteArray,fP a=fP b->a=b:=λa b h=>by injection h
theorem aez:Mq Tryz.prog 287:=λblk off cap zs w h1 h2 h3=>by
 have h:=Any.slices_Sort_string Tryz.lays190 blk off cap (zs.map λz=>z.data.toList) w h1 h2 (by rw[bR];exact h3);rw[bR]at h;exact h
theorem aeA:∃fn body,Tryz.prog.funcs[287]? =some fn/\fn.body=some body/\fn.name≠ "runtime.NumGoroutine" :=by
 obtain⟨fn,h1,h2⟩:=Nb.fn 287 UF aex;have h3:Tryz.prog.funcs[287]? =some fn:=h1;have h4:(fn.name== "runtime.NumGoroutine")=false:=by
  have e:(Tryz.prog.funcs[287]?).map (λf=>f.name== "runtime.NumGoroutine")=some false:=by kernel_rfl
  rw[h3]at e;exact Option.some.inj e
 have h5:fn.body.isSome=true:=by
  have e:(Tryz.prog.funcs[287]?).map (λf=>f.body.isSome)=some true:=by kernel_rfl
  rw[h3]at e;exact Option.some.inj e
 obtain⟨body,hb⟩:=Oo.1 h5;exact⟨fn,body,h3,hb,by simpa using h4⟩
theorem aeB{a:Option Addr}{m:Nat}{zs:List ByteArray}(hm:m=zs.length)(h0:0<zs.length)(hl:zs.length<4611686018427387904):
 bi Tryz.prog (.func 287) [.slice a m m] [] [ap aR (.slice a m m) zs] [] (λ_:Unit=>.tuple ⟨[]⟩) (λ_=>[ap aR (.slice a m m) (nG zs)]) (λ_=>[]) (λ_=>True):=by
 subst hm;obtain⟨fn,body,h1,h2,h3⟩:=aeA;exact aco aez h1 h2 h3 h0 hl
theorem aeC{b bm:Nat}{ai:List (ByteArray×Value)}:rT Tryz.prog (λx:ByteArray=>[fP x]) (.func 288) [] [ptr' b] [eG b 0 [.map (some bm)],rR fP bm ai] (λxs=>xs.Perm (ai.map (·.1))):=by
 intro S inv ok step s0 uH y1 y2 F' h0 hok hy;rw[dD,dD,bX];refine aK _ (aP 288) λB w0=>?_;refine go ?_;refine RO (b:=bm) (ai:=ai) (aX:=fP) (next:=λr=>?_);refine go ?_;refine aZ (λy:List (ByteArray×Value)×S=>ai.length - y.1.length) (λy=>[]) (λy=>zR fP r bm ai y.1::inv y.2) (λ_=>[]) (λy=>ok (y.1.map (·.1)) y.2/\(∃rest,(y.1++rest).Perm ai)/\∀rest,gT step s0 (y.1.map (·.1)++rest)=gT step y.2 rest) ([],s0) ⟨h0,⟨ai,.refl _⟩,λ_=>rfl⟩ (body:=?_);rintro⟨fI,s⟩ ⟨hos,_,hrun⟩;dsimp only at hos hrun⊢;refine go ?_;refine RP (b:=bm) (ai:=ai) (fI:=fI) (aX:=fP) (more:=λp rem hp=>?_) (done:=λhp=>?_) aey
 ·have hX:(fI.map (·.1)++p.1::rem.map (·.1)).Perm (ai.map (·.1)):=by
   have:=hp.map (·.1);rw[dW,gQ]at this;exact this
  have hlen:=hp.length_eq;rw[fA,nK]at hlen;have nX:=hy _ s _ _ hos hX;refine go ?_;refine RQ (aX:=fP) (ai:=ai) (fI:=fI) (p:=p) ?_;refine go ?_;refine ax nX (next:=λ_ _=>?_);cases hst:(step s p.1).2 with
  |true=>
   have hs1:step s p.1=((step s p.1).1,true):=Prod.ext rfl hst;refine go ?_;refine aQ (fI++[p],(step s p.1).1) (by show ai.length - (fI++[p]).length<_;rw[fA,uY];omega) ⟨?_,⟨rem,by show((fI++[p])++rem).Perm ai;rw[fE];exact hp⟩,λrest=>?_⟩
   ·show ok ((fI++[p]).map (·.1)) _;rw[dW];exact hok _ s _ _ hos hX hst
   ·show gT step s0 ((fI++[p]).map (·.1)++rest)=_;rw[dW,fE,hrun];show gT step s (p.1::rest)=_;rw[gT,hs1]
  |false=>
   have hs1:step s p.1=((step s p.1).1,false):=Prod.ext rfl hst;have hr:=hrun (p.1::rem.map (·.1));rw[gT,hs1]at hr;dsimp only at hr;refine go ?_;exact ae (fI.map (·.1)++p.1::rem.map (·.1)) (hv:=rfl) (hp:=hX) (hk:=by rw[hr];exact aI.self _ _)
 ·refine go ?_;have hr:=hrun [];rw[gy]at hr;exact ae (fI.map (·.1)) (hv:=rfl) (hp:=hp.map (·.1)) (hk:=by rw[hr];apply aI.there;exact aI.all _)
structure Nh where
 c:Option Nat
 xs:List ByteArray
abbrev FL(b n:Nat)(ys:List ByteArray):OA:=BL λc:Option Nat=>[pt b (.cells [gv aR.n c n]),ap aR (gv aR.n c n) ys]
theorem aeD{fn:Fn}{first captured:List Value}{F1:List aH}{X:List ByteArray->Prop}(hit:rT Tryz.prog (λx:ByteArray=>[fP x]) fn first captured F1 X)(hl:∀xs,X xs->xs.length<=1000000):
 bi Tryz.prog (.func 310) [.slice none 0 0,.func fn ⟨first⟩ ⟨captured⟩] [] [] F1 (λy:Nh=>gv aR.n y.c y.xs.length) (λy=>[ap aR (gv aR.n y.c y.xs.length) y.xs]) (λ_=>[]) (λy=>X y.xs):=by
 refine EU _ (aP 310) λB w0=>?_;refine go ?_;intro b2;refine gI aR ?_;rw[show Value.slice none 0 0=gv aR.n none 0 from rfl];refine uF (λc:Option Nat=>[pt b2 (.cells [gv aR.n c 0]),ap aR (gv aR.n c 0) ([]:List ByteArray)]) none (h:=?_);refine Cb (A:=FL b2 0 ([]:List ByteArray)) (A':=FL b2 ([]:List ByteArray).length ([]:List ByteArray)) rfl ?_;refine E9 (Z:=Nat) (λ(ys:List ByteArray) (x:ByteArray)=>(ys++[x],Out.normal)) (λys=>[FL b2 ys.length ys]) (λvs ys=>ys=vs) [] _ (λ_ _=>[]) rfl (λvs s x rest hs hX _=>by rw[hs]) hit (by intro s x lo o B w0;refine go ?_;have z0:Nat:=0;exact zT z0 rfl) ?_ ?_ (λ_ _=>trivial)
 ·intro vs s x rest z lo L B w0 hs hx;subst hs;dsimp only[List.cons_append,List.nil_append];have hlen:s.length<=1000000:=by have:=hl _ hx;rw[fA,nK]at this;omega
  refine x8 (h:=λc=>?_);generalize hv:gv aR.n c s.length=v;refine go ?_;intro b10;refine acr (xs:=s) aR x () (by omega) (next:=λcb=>?_);refine go ?_;rw[show Value.slice (some ⟨cb,0,some aR.n⟩) (s.length+1) (s.length+1)=gv aR.n (some cb) (s.length+1)from rfl];refine uF (λc:Option Nat=>[pt b2 (.cells [gv aR.n c (s.length+1)]),ap aR (gv aR.n c (s.length+1)) (s++[x])]) (some cb) (h:=?_);refine Cb (A:=FL b2 (s.length+1) (s++[x])) (A':=FL b2 (s++[x]).length (s++[x])) (by rw[fA,uY]) ?_;exact uG () rfl trivial trivial
 ·intro r xs hX;have hrun:∀(ys zs:List ByteArray),jr (λ(ys:List ByteArray) (x:ByteArray)=>(ys++[x],Out.normal)) ys zs=(ys++zs,.normal):=by
   intro ys zs;induction zs generalizing ys with
   |nil=>simp[jr]
   |cons z zs ih=>rw[jr];simp only[ih];simp
  rw[hrun,bX];dsimp only[List.cons_append,List.nil_append];refine x8 (h:=λc=>?_);generalize hv:gv aR.n c xs.length=v;refine go ?_;subst hv;exact BM ⟨c,xs⟩ (hv:=rfl) (hp:=hX)
theorem aeE{fn:Fn}{first captured:List Value}{F1:List aH}{X:List ByteArray->Prop}(hit:rT Tryz.prog (λx:ByteArray=>[fP x]) fn first captured F1 X)(hl:∀xs,X xs->xs.length<=1000000):
 bi Tryz.prog (.func 286) [.func fn ⟨first⟩ ⟨captured⟩] [] [] F1 (λy:Nh=>gv aR.n y.c y.xs.length) (λy=>[ap aR (gv aR.n y.c y.xs.length) y.xs]) (λ_=>[]) (λy=>X y.xs):=by
 refine aK _ (aP 286) λB w0=>?_;refine go ?_;refine ax (aeD hit hl) (next:=λy hy=>?_);dsimp only[List.cons_append,List.nil_append];refine go ?_;exact ae y (hv:=rfl) (hp:=hy)
theorem aeF{fn:Fn}{first captured:List Value}{F1:List aH}{X:List ByteArray->Prop}(hit:rT Tryz.prog (λx:ByteArray=>[fP x]) fn first captured F1 X)(hl:∀xs,X xs->0<xs.length/\xs.length<=1000000):
 bi Tryz.prog (.func 252) [.func fn ⟨first⟩ ⟨captured⟩] [] [] F1 (λy:Nh=>gv aR.n y.c y.xs.length) (λy=>[ap aR (gv aR.n y.c y.xs.length) (nG y.xs)]) (λ_=>[]) (λy=>X y.xs):=by
 refine aK _ (aP 252) λB w0=>?_;refine go ?_;refine ax (aeE hit λxs hx=>(hl xs hx).2) (next:=λy hy=>?_);obtain⟨c,xs⟩:=y;dsimp only[List.cons_append,List.nil_append]at hy⊢;obtain⟨h0,hlen⟩:=hl _ hy;cases c with
 |none=>
  rw[show gv aR.n none xs.length=Value.slice none 0 0 from rfl];exact acs (xs:=xs) h0
 |some c=>
  rw[show gv aR.n (some c) xs.length=.slice (some ⟨c,0,some aR.n⟩) xs.length xs.length from rfl];refine go ?_;refine ax (aeB (a:=some ⟨c,0,some aR.n⟩) (zs:=xs) rfl h0 (by omega)) (next:=λ_ _=>?_);refine go ?_;rw[show Value.slice (some ⟨c,0,some aR.n⟩) xs.length xs.length=gv aR.n (some c) xs.length from rfl];exact ae ⟨some c,xs⟩ (hv:=rfl) (hp:=hy)
