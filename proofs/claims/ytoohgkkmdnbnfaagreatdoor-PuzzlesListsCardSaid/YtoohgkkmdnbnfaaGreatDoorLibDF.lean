/-
  Sorted strings out of a map's keys.
-/
import Derived.Test.YtoohgkkmdnbnfaaGreatDoorLibCF
import Derived.Test.YtoohgkkmdnbnfaaGreatDoorShelfS
import Derived.Test.YtoohgkkmdnbnfaaGreatDoorIdealPF
set_option linter.all false
set_option maxRecDepth 10000
set_option maxHeartbeats 4000000
namespace Go.Proofs.YtoohgkkmdnbnfaaGreatDoor
open Go.Ideal Kd
noncomputable def TM:=tY Tryz.prog 287
theorem adE:mo Tryz.prog 287=some TM:=by kernel_rfl
theorem adF:∀a b:ByteArray,fM a=fM b->a=b:=λa b h=>by injection h
theorem adG:LF Tryz.prog 287:=λblk off cap zs w h1 h2 h3=>by
 have h:=Any.slices_Sort_string Tryz.lays190 blk off cap (zs.map λz=>z.data.toList) w h1 h2 (by rw[bU];exact h3);rw[bU]at h;exact h
theorem adH:∃fn body,Tryz.prog.funcs[287]? =some fn/\fn.body=some body/\fn.name≠ "runtime.NumGoroutine" :=by
 obtain⟨fn,h1,h2⟩:=Mx.fn 287 TM adE;have h3:Tryz.prog.funcs[287]? =some fn:=h1;have h4:(fn.name== "runtime.NumGoroutine")=false:=by
  have e:(Tryz.prog.funcs[287]?).map (λf=>f.name== "runtime.NumGoroutine")=some false:=by kernel_rfl
  rw[h3]at e;exact Option.some.inj e
 have h5:fn.body.isSome=true:=by
  have e:(Tryz.prog.funcs[287]?).map (λf=>f.body.isSome)=some true:=by kernel_rfl
  rw[h3]at e;exact Option.some.inj e
 obtain⟨body,hb⟩:=NH.1 h5;exact⟨fn,body,h3,hb,by simpa using h4⟩
theorem adI{a:Option Addr}{m:Nat}{zs:List ByteArray}(hm:m=zs.length)(h0:0<zs.length)(hl:zs.length<4611686018427387904):
 bz Tryz.prog (.func 287) [.slice a m m] [] [ap aR (.slice a m m) zs] [] (λ_:Unit=>.tuple ⟨[]⟩) (λ_=>[ap aR (.slice a m m) (mU zs)]) (λ_=>[]) (λ_=>True):=by
 subst hm;obtain⟨fn,body,h1,h2,h3⟩:=adH;exact abz adG h1 h2 h3 h0 hl
theorem adJ{b bm:Nat}{ai:List (ByteArray×Value)}:ry Tryz.prog (λx:ByteArray=>[fM x]) (.func 288) [] [ptr' b] [eB b 0 [.map (some bm)],ru fM bm ai] (λxs=>xs.Perm (ai.map (·.1))):=by
 intro S inv ok step s0 uq y1 y2 F' h0 hok hy;rw[dF,dF,bY];refine aK _ (aP 288) λB w0=>?_;refine go ?_;refine Q9 (b:=bm) (ai:=ai) (aX:=fM) (next:=λr=>?_);refine go ?_;refine bi (λy:List (ByteArray×Value)×S=>ai.length - y.1.length) (λy=>[]) (λy=>zq fM r bm ai y.1::inv y.2) (λ_=>[]) (λy=>ok (y.1.map (·.1)) y.2/\(∃rest,(y.1++rest).Perm ai)/\∀rest,gM step s0 (y.1.map (·.1)++rest)=gM step y.2 rest) ([],s0) ⟨h0,⟨ai,.refl _⟩,λ_=>rfl⟩ (body:=?_);rintro⟨fC,s⟩ ⟨hos,_,hrun⟩;dsimp only at hos hrun⊢;refine go ?_;refine Ra (b:=bm) (ai:=ai) (fC:=fC) (aX:=fM) (more:=λp rem hp=>?_) (done:=λhp=>?_) adF
 ·have hX:(fC.map (·.1)++p.1::rem.map (·.1)).Perm (ai.map (·.1)):=by
   have:=hp.map (·.1);rw[dY,gN]at this;exact this
  have hlen:=hp.length_eq;rw[gD,oO]at hlen;have nK:=hy _ s _ _ hos hX;refine go ?_;refine Rb (aX:=fM) (ai:=ai) (fC:=fC) (p:=p) ?_;refine go ?_;refine ax nK (next:=λ_ _=>?_);cases hst:(step s p.1).2 with
  |true=>
   have hs1:step s p.1=((step s p.1).1,true):=Prod.ext rfl hst;refine go ?_;refine aQ (fC++[p],(step s p.1).1) (by show ai.length - (fC++[p]).length<_;rw[gD,uL];omega) ⟨?_,⟨rem,by show((fC++[p])++rem).Perm ai;rw[fq];exact hp⟩,λrest=>?_⟩
   ·show ok ((fC++[p]).map (·.1)) _;rw[dY];exact hok _ s _ _ hos hX hst
   ·show gM step s0 ((fC++[p]).map (·.1)++rest)=_;rw[dY,fq,hrun];show gM step s (p.1::rest)=_;rw[gM,hs1]
  |false=>
   have hs1:step s p.1=((step s p.1).1,false):=Prod.ext rfl hst;have hr:=hrun (p.1::rem.map (·.1));rw[gM,hs1]at hr;dsimp only at hr;refine go ?_;exact ae (fC.map (·.1)++p.1::rem.map (·.1)) (hv:=rfl) (hp:=hX) (hk:=by rw[hr];exact aH.self _ _)
 ·refine go ?_;have hr:=hrun [];rw[gK]at hr;exact ae (fC.map (·.1)) (hv:=rfl) (hp:=hp.map (·.1)) (hk:=by rw[hr];apply aH.there;exact aH.all _)
structure MF where
 c:Option Nat
 xs:List ByteArray
abbrev Er(b n:Nat)(ys:List ByteArray):OA:=Bg λc:Option Nat=>[pt b (.cells [gv aR.n c n]),ap aR (gv aR.n c n) ys]
theorem adK{fn:Fn}{first captured:List Value}{F1:List aF}{X:List ByteArray->Prop}(hit:ry Tryz.prog (λx:ByteArray=>[fM x]) fn first captured F1 X)(hl:∀xs,X xs->xs.length<=1000000):
 bz Tryz.prog (.func 310) [.slice none 0 0,.func fn ⟨first⟩ ⟨captured⟩] [] [] F1 (λy:MF=>gv aR.n y.c y.xs.length) (λy=>[ap aR (gv aR.n y.c y.xs.length) y.xs]) (λ_=>[]) (λy=>X y.xs):=by
 refine DK _ (aP 310) λB w0=>?_;refine go ?_;intro b2;refine gz aR ?_;rw[show Value.slice none 0 0=gv aR.n none 0 from rfl];refine um (λc:Option Nat=>[pt b2 (.cells [gv aR.n c 0]),ap aR (gv aR.n c 0) ([]:List ByteArray)]) none (h:=?_);refine Bu (A:=Er b2 0 ([]:List ByteArray)) (A':=Er b2 ([]:List ByteArray).length ([]:List ByteArray)) rfl ?_;refine DV (Z:=Nat) (λ(ys:List ByteArray) (x:ByteArray)=>(ys++[x],Out.normal)) (λys=>[Er b2 ys.length ys]) (λvs ys=>ys=vs) [] _ (λ_ _=>[]) rfl (λvs s x rest hs hX _=>by rw[hs]) hit (by intro s x lo o B w0;refine go ?_;have z0:Nat:=0;exact zw z0 rfl) ?_ ?_ (λ_ _=>trivial)
 ·intro vs s x rest z lo L B w0 hs hx;subst hs;dsimp only[List.cons_append,List.nil_append];have hlen:s.length<=1000000:=by have:=hl _ hx;rw[gD,oO]at this;omega
  refine xK (h:=λc=>?_);generalize hv:gv aR.n c s.length=v;refine go ?_;intro b10;refine abB (xs:=s) aR x () (by omega) (next:=λcb=>?_);refine go ?_;rw[show Value.slice (some ⟨cb,0,some aR.n⟩) (s.length+1) (s.length+1)=gv aR.n (some cb) (s.length+1)from rfl];refine um (λc:Option Nat=>[pt b2 (.cells [gv aR.n c (s.length+1)]),ap aR (gv aR.n c (s.length+1)) (s++[x])]) (some cb) (h:=?_);refine Bu (A:=Er b2 (s.length+1) (s++[x])) (A':=Er b2 (s++[x]).length (s++[x])) (by rw[gD,uL]) ?_;exact uo () rfl trivial trivial
 ·intro r xs hX;have hrun:∀(ys zs:List ByteArray),jc (λ(ys:List ByteArray) (x:ByteArray)=>(ys++[x],Out.normal)) ys zs=(ys++zs,.normal):=by
   intro ys zs;induction zs generalizing ys with
   |nil=>simp[jc]
   |cons z zs ih=>rw[jc];simp only[ih];simp
  rw[hrun,bY];dsimp only[List.cons_append,List.nil_append];refine xK (h:=λc=>?_);generalize hv:gv aR.n c xs.length=v;refine go ?_;subst hv;exact Bh ⟨c,xs⟩ (hv:=rfl) (hp:=hX)
theorem adL{fn:Fn}{first captured:List Value}{F1:List aF}{X:List ByteArray->Prop}(hit:ry Tryz.prog (λx:ByteArray=>[fM x]) fn first captured F1 X)(hl:∀xs,X xs->xs.length<=1000000):
 bz Tryz.prog (.func 286) [.func fn ⟨first⟩ ⟨captured⟩] [] [] F1 (λy:MF=>gv aR.n y.c y.xs.length) (λy=>[ap aR (gv aR.n y.c y.xs.length) y.xs]) (λ_=>[]) (λy=>X y.xs):=by
 refine aK _ (aP 286) λB w0=>?_;refine go ?_;refine ax (adK hit hl) (next:=λy hy=>?_);dsimp only[List.cons_append,List.nil_append];refine go ?_;exact ae y (hv:=rfl) (hp:=hy)
theorem adM{fn:Fn}{first captured:List Value}{F1:List aF}{X:List ByteArray->Prop}(hit:ry Tryz.prog (λx:ByteArray=>[fM x]) fn first captured F1 X)(hl:∀xs,X xs->0<xs.length/\xs.length<=1000000):
 bz Tryz.prog (.func 252) [.func fn ⟨first⟩ ⟨captured⟩] [] [] F1 (λy:MF=>gv aR.n y.c y.xs.length) (λy=>[ap aR (gv aR.n y.c y.xs.length) (mU y.xs)]) (λ_=>[]) (λy=>X y.xs):=by
 refine aK _ (aP 252) λB w0=>?_;refine go ?_;refine ax (adL hit λxs hx=>(hl xs hx).2) (next:=λy hy=>?_);obtain⟨c,xs⟩:=y;dsimp only[List.cons_append,List.nil_append]at hy⊢;obtain⟨h0,hlen⟩:=hl _ hy;cases c with
 |none=>
  rw[show gv aR.n none xs.length=Value.slice none 0 0 from rfl];exact abC (xs:=xs) h0
 |some c=>
  rw[show gv aR.n (some c) xs.length=.slice (some ⟨c,0,some aR.n⟩) xs.length xs.length from rfl];refine go ?_;refine ax (adI (a:=some ⟨c,0,some aR.n⟩) (zs:=xs) rfl h0 (by omega)) (next:=λ_ _=>?_);refine go ?_;rw[show Value.slice (some ⟨c,0,some aR.n⟩) xs.length xs.length=gv aR.n (some c) xs.length from rfl];exact ae ⟨some c,xs⟩ (hv:=rfl) (hp:=hy)
