/-
  Sorted strings out of a map's keys.
-/
import Derived.Test.YtoohgkkmdnbnfaaGreatDoorLibCB
import Derived.Test.YtoohgkkmdnbnfaaGreatDoorShelfS
import Derived.Test.YtoohgkkmdnbnfaaGreatDoorIdealPB
set_option linter.all false
set_option maxRecDepth 10000
set_option maxHeartbeats 4000000
namespace Go.Proofs.YtoohgkkmdnbnfaaGreatDoor
open Go.Ideal Kd
noncomputable def R4:=rR Tryz.prog 287
theorem abS:kz Tryz.prog 287=some R4:=by kernel_rfl
theorem abT:∀a b:ByteArray,fD a=fD b->a=b:=λa b h=>by injection h
theorem abU:Kk Tryz.prog 287:=λblk off cap zs w h1 h2 h3=>by
 have h:=Any.slices_Sort_string Tryz.lays190 blk off cap (zs.map λz=>z.data.toList) w h1 h2 (by rw[di];exact h3);rw[di]at h;exact h
theorem abV:∃fn body,Tryz.prog.funcs[287]? =some fn/\fn.body=some body/\fn.name≠ "runtime.NumGoroutine" :=by
 obtain⟨fn,h1,h2⟩:=La.fn 287 R4 abS;have h3:Tryz.prog.funcs[287]? =some fn:=h1;have h4:(fn.name== "runtime.NumGoroutine")=false:=by
  have e:(Tryz.prog.funcs[287]?).map (λf=>f.name== "runtime.NumGoroutine")=some false:=by kernel_rfl
  rw[h3]at e;exact Option.some.inj e
 have h5:fn.body.isSome=true:=by
  have e:(Tryz.prog.funcs[287]?).map (λf=>f.body.isSome)=some true:=by kernel_rfl
  rw[h3]at e;exact Option.some.inj e
 obtain⟨body,hb⟩:=Mq.1 h5;exact⟨fn,body,h3,hb,by simpa using h4⟩
theorem abW{a:Option Addr}{m:Nat}{zs:List ByteArray}(hm:m=zs.length)(h0:0<zs.length)(hl:zs.length<4611686018427387904):
 aZ Tryz.prog (.func 287) [.slice a m m] [] [ap aN (.slice a m m) zs] [] (λ_:Unit=>.tuple ⟨[]⟩) (λ_=>[ap aN (.slice a m m) (mi zs)]) (λ_=>[]) (λ_=>True):=by
 subst hm;obtain⟨fn,body,h1,h2,h3⟩:=abV;exact aab abU h1 h2 h3 h0 hl
theorem abX{b bm:Nat}{ai:List (ByteArray×Value)}:qR Tryz.prog (λx:ByteArray=>[fD x]) (.func 288) [] [ptr' b] [gH b 0 [.map (some bm)],qQ fD bm ai] (λxs=>xs.Perm (ai.map (·.1))):=by
 intro S inv ok step s0 Ar y1 y2 F' h0 hok hy;rw[eU,eU,dH];refine aG _ (aM 288) λB w0=>?_;refine go ?_;refine PT (b:=bm) (ai:=ai) (aV:=fD) (next:=λr=>?_);refine go ?_;refine aX (λy:List (ByteArray×Value)×S=>ai.length - y.1.length) (λy=>[]) (λy=>yO fD r bm ai y.1::inv y.2) (λ_=>[]) (λy=>ok (y.1.map (·.1)) y.2/\(∃rest,(y.1++rest).Perm ai)/\∀rest,jr step s0 (y.1.map (·.1)++rest)=jr step y.2 rest) ([],s0) ⟨h0,⟨ai,.refl _⟩,λ_=>rfl⟩ (body:=?_);rintro⟨ic,s⟩ ⟨hos,_,hrun⟩;dsimp only at hos hrun⊢;refine go ?_;refine PU (b:=bm) (ai:=ai) (ic:=ic) (aV:=fD) (more:=λp rem hp=>?_) (done:=λhp=>?_) abT
 ·have hX:(ic.map (·.1)++p.1::rem.map (·.1)).Perm (ai.map (·.1)):=by
   have:=hp.map (·.1);rw[eX,gY]at this;exact this
  have hlen:=hp.length_eq;rw[gB,oq]at hlen;have vF:=hy _ s _ _ hos hX;refine go ?_;refine PV (aV:=fD) (ai:=ai) (ic:=ic) (p:=p) ?_;refine go ?_;refine ak vF (next:=λ_ _=>?_);cases hst:(step s p.1).2 with
  |true=>
   have hs1:step s p.1=((step s p.1).1,true):=Prod.ext rfl hst;refine go ?_;refine aO (ic++[p],(step s p.1).1) (by show ai.length - (ic++[p]).length<_;rw[gB,uk];omega) ⟨?_,⟨rem,by show((ic++[p])++rem).Perm ai;rw[fE];exact hp⟩,λrest=>?_⟩
   ·show ok ((ic++[p]).map (·.1)) _;rw[eX];exact hok _ s _ _ hos hX hst
   ·show jr step s0 ((ic++[p]).map (·.1)++rest)=_;rw[eX,fE,hrun];show jr step s (p.1::rest)=_;rw[jr,hs1]
  |false=>
   have hs1:step s p.1=((step s p.1).1,false):=Prod.ext rfl hst;have hr:=hrun (p.1::rem.map (·.1));rw[jr,hs1]at hr;dsimp only at hr;refine go ?_;exact aa (ic.map (·.1)++p.1::rem.map (·.1)) (hv:=rfl) (hp:=hX) (hk:=by rw[hr];exact aH.self _ _)
 ·refine go ?_;have hr:=hrun [];rw[gD]at hr;exact aa (ic.map (·.1)) (hv:=rfl) (hp:=hp.map (·.1)) (hk:=by rw[hr];apply aH.there;exact aH.all _)
structure Lf where
 c:Option Nat
 xs:List ByteArray
abbrev Ea(b n:Nat)(ys:List ByteArray):OA:=FN λc:Option Nat=>[pt b (.cells [gv aN.n c n]),ap aN (gv aN.n c n) ys]
theorem abY{fn:Fn}{first captured:List Value}{F1:List aJ}{X:List ByteArray->Prop}(hit:qR Tryz.prog (λx:ByteArray=>[fD x]) fn first captured F1 X)(hl:∀xs,X xs->xs.length<=1000000):
 aZ Tryz.prog (.func 310) [.slice none 0 0,.func fn ⟨first⟩ ⟨captured⟩] [] [] F1 (λy:Lf=>gv aN.n y.c y.xs.length) (λy=>[ap aN (gv aN.n y.c y.xs.length) y.xs]) (λ_=>[]) (λy=>X y.xs):=by
 refine FT _ (aM 310) λB w0=>?_;refine go ?_;intro b2;refine gq aN ?_;rw[show Value.slice none 0 0=gv aN.n none 0 from rfl];refine FQ (λc:Option Nat=>[pt b2 (.cells [gv aN.n c 0]),ap aN (gv aN.n c 0) ([]:List ByteArray)]) none (h:=?_);refine Az (A:=Ea b2 0 ([]:List ByteArray)) (A':=Ea b2 ([]:List ByteArray).length ([]:List ByteArray)) rfl ?_;refine DJ (Z:=Nat) (λ(ys:List ByteArray) (x:ByteArray)=>(ys++[x],Out.normal)) (λys=>[Ea b2 ys.length ys]) (λvs ys=>ys=vs) [] _ (λ_ _=>[]) rfl (λvs s x rest hs hX _=>by rw[hs]) hit (by intro s x lo o B w0;refine go ?_;have z0:Nat:=0;exact DI z0 rfl) ?_ ?_ (λ_ _=>trivial)
 ·intro vs s x rest z lo L B w0 hs hx;subst hs;dsimp only[List.cons_append,List.nil_append];have hlen:s.length<=1000000:=by have:=hl _ hx;rw[gB,oq]at this;omega
  refine FP (h:=λc=>?_);generalize hv:gv aN.n c s.length=v;refine go ?_;intro b10;refine aad (xs:=s) aN x () (by omega) (next:=λcb=>?_);refine go ?_;rw[show Value.slice (some ⟨cb,0,some aN.n⟩) (s.length+1) (s.length+1)=gv aN.n (some cb) (s.length+1)from rfl];refine FQ (λc:Option Nat=>[pt b2 (.cells [gv aN.n c (s.length+1)]),ap aN (gv aN.n c (s.length+1)) (s++[x])]) (some cb) (h:=?_);refine Az (A:=Ea b2 (s.length+1) (s++[x])) (A':=Ea b2 (s++[x]).length (s++[x])) (by rw[gB,uk]) ?_;exact Am () rfl trivial trivial
 ·intro r xs hX;have hrun:∀(ys zs:List ByteArray),lT (λ(ys:List ByteArray) (x:ByteArray)=>(ys++[x],Out.normal)) ys zs=(ys++zs,.normal):=by
   intro ys zs;induction zs generalizing ys with
   |nil=>simp[lT]
   |cons z zs ih=>rw[lT];simp only[ih];simp
  rw[hrun,dH];dsimp only[List.cons_append,List.nil_append];refine FP (h:=λc=>?_);generalize hv:gv aN.n c xs.length=v;refine go ?_;subst hv;exact Dw ⟨c,xs⟩ (hv:=rfl) (hp:=hX)
theorem abZ{fn:Fn}{first captured:List Value}{F1:List aJ}{X:List ByteArray->Prop}(hit:qR Tryz.prog (λx:ByteArray=>[fD x]) fn first captured F1 X)(hl:∀xs,X xs->xs.length<=1000000):
 aZ Tryz.prog (.func 286) [.func fn ⟨first⟩ ⟨captured⟩] [] [] F1 (λy:Lf=>gv aN.n y.c y.xs.length) (λy=>[ap aN (gv aN.n y.c y.xs.length) y.xs]) (λ_=>[]) (λy=>X y.xs):=by
 refine aG _ (aM 286) λB w0=>?_;refine go ?_;refine ak (abY hit hl) (next:=λy hy=>?_);dsimp only[List.cons_append,List.nil_append];refine go ?_;exact aa y (hv:=rfl) (hp:=hy)
theorem ab0{fn:Fn}{first captured:List Value}{F1:List aJ}{X:List ByteArray->Prop}(hit:qR Tryz.prog (λx:ByteArray=>[fD x]) fn first captured F1 X)(hl:∀xs,X xs->0<xs.length/\xs.length<=1000000):
 aZ Tryz.prog (.func 252) [.func fn ⟨first⟩ ⟨captured⟩] [] [] F1 (λy:Lf=>gv aN.n y.c y.xs.length) (λy=>[ap aN (gv aN.n y.c y.xs.length) (mi y.xs)]) (λ_=>[]) (λy=>X y.xs):=by
 refine aG _ (aM 252) λB w0=>?_;refine go ?_;refine ak (abZ hit λxs hx=>(hl xs hx).2) (next:=λy hy=>?_);obtain⟨c,xs⟩:=y;dsimp only[List.cons_append,List.nil_append]at hy⊢;obtain⟨h0,hlen⟩:=hl _ hy;cases c with
 |none=>
  rw[show gv aN.n none xs.length=Value.slice none 0 0 from rfl];exact aae (xs:=xs) h0
 |some c=>
  rw[show gv aN.n (some c) xs.length=.slice (some ⟨c,0,some aN.n⟩) xs.length xs.length from rfl];refine go ?_;refine ak (abW (a:=some ⟨c,0,some aN.n⟩) (zs:=xs) rfl h0 (by omega)) (next:=λ_ _=>?_);refine go ?_;rw[show Value.slice (some ⟨c,0,some aN.n⟩) xs.length xs.length=gv aN.n (some c) xs.length from rfl];exact aa ⟨some c,xs⟩ (hv:=rfl) (hp:=hy)
