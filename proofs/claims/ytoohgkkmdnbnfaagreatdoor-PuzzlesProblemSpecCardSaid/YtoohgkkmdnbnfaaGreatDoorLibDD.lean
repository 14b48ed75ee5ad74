/-
  Sorted strings out of a map's keys.
-/
import Derived.Test.YtoohgkkmdnbnfaaGreatDoorLibCD
import Derived.Test.YtoohgkkmdnbnfaaGreatDoorShelfS
import Derived.Test.YtoohgkkmdnbnfaaGreatDoorIdealPD
set_option linter.all false
set_option maxRecDepth 10000
set_option maxHeartbeats 4000000
namespace Go.Proofs.YtoohgkkmdnbnfaaGreatDoor
open Go.Ideal Kd
noncomputable def Uh:=uj Tryz.prog 287
theorem adO:mF Tryz.prog 287=some Uh:=by kernel_rfl
theorem adP:∀a b:ByteArray,fP a=fP b->a=b:=λa b h=>by injection h
theorem adQ:Mc Tryz.prog 287:=λblk off cap zs w h1 h2 h3=>by
 have h:=Any.slices_Sort_string Tryz.lays190 blk off cap (zs.map λz=>z.data.toList) w h1 h2 (by rw[cz];exact h3);rw[cz]at h;exact h
theorem adR:∃fn body,Tryz.prog.funcs[287]? =some fn/\fn.body=some body/\fn.name≠ "runtime.NumGoroutine" :=by
 obtain⟨fn,h1,h2⟩:=MV.fn 287 Uh adO;have h3:Tryz.prog.funcs[287]? =some fn:=h1;have h4:(fn.name== "runtime.NumGoroutine")=false:=by
  have e:(Tryz.prog.funcs[287]?).map (λf=>f.name== "runtime.NumGoroutine")=some false:=by kernel_rfl
  rw[h3]at e;exact Option.some.inj e
 have h5:fn.body.isSome=true:=by
  have e:(Tryz.prog.funcs[287]?).map (λf=>f.body.isSome)=some true:=by kernel_rfl
  rw[h3]at e;exact Option.some.inj e
 obtain⟨body,hb⟩:=Oa.1 h5;exact⟨fn,body,h3,hb,by simpa using h4⟩
theorem adS{a:Option Addr}{m:Nat}{zs:List ByteArray}(hm:m=zs.length)(h0:0<zs.length)(hl:zs.length<4611686018427387904):
 bn Tryz.prog (.func 287) [.slice a m m] [] [ap aT (.slice a m m) zs] [] (λ_:Unit=>.tuple ⟨[]⟩) (λ_=>[ap aT (.slice a m m) (ng zs)]) (λ_=>[]) (λ_=>True):=by
 subst hm;obtain⟨fn,body,h1,h2,h3⟩:=adR;exact abT adQ h1 h2 h3 h0 hl
theorem adT{b bm:Nat}{ai:List (ByteArray×Value)}:rG Tryz.prog (λx:ByteArray=>[fP x]) (.func 288) [] [ptr' b] [eH b 0 [.map (some bm)],rF fP bm ai] (λxs=>xs.Perm (ai.map (·.1))):=by
 intro S inv ok step s0 uB y1 y2 F' h0 hok hy;rw[dD,dD,bZ];refine aI _ (aO 288) λB w0=>?_;refine go ?_;refine Rx (b:=bm) (ai:=ai) (aX:=fP) (next:=λr=>?_);refine go ?_;refine aZ (λy:List (ByteArray×Value)×S=>ai.length - y.1.length) (λy=>[]) (λy=>zD fP r bm ai y.1::inv y.2) (λ_=>[]) (λy=>ok (y.1.map (·.1)) y.2/\(∃rest,(y.1++rest).Perm ai)/\∀rest,gQ step s0 (y.1.map (·.1)++rest)=gQ step y.2 rest) ([],s0) ⟨h0,⟨ai,.refl _⟩,λ_=>rfl⟩ (body:=?_);rintro⟨fG,s⟩ ⟨hos,_,hrun⟩;dsimp only at hos hrun⊢;refine go ?_;refine Ry (b:=bm) (ai:=ai) (fG:=fG) (aX:=fP) (more:=λp rem hp=>?_) (done:=λhp=>?_) adP
 ·have hX:(fG.map (·.1)++p.1::rem.map (·.1)).Perm (ai.map (·.1)):=by
   have:=hp.map (·.1);rw[eB,gT]at this;exact this
  have hlen:=hp.length_eq;rw[gH,o8]at hlen;have nO:=hy _ s _ _ hos hX;refine go ?_;refine Rz (aX:=fP) (ai:=ai) (fG:=fG) (p:=p) ?_;refine go ?_;refine ax nO (next:=λ_ _=>?_);cases hst:(step s p.1).2 with
  |true=>
   have hs1:step s p.1=((step s p.1).1,true):=Prod.ext rfl hst;refine go ?_;refine aP (fG++[p],(step s p.1).1) (by show ai.length - (fG++[p]).length<_;rw[gH,uU];omega) ⟨?_,⟨rem,by show((fG++[p])++rem).Perm ai;rw[fB];exact hp⟩,λrest=>?_⟩
   ·show ok ((fG++[p]).map (·.1)) _;rw[eB];exact hok _ s _ _ hos hX hst
   ·show gQ step s0 ((fG++[p]).map (·.1)++rest)=_;rw[eB,fB,hrun];show gQ step s (p.1::rest)=_;rw[gQ,hs1]
  |false=>
   have hs1:step s p.1=((step s p.1).1,false):=Prod.ext rfl hst;have hr:=hrun (p.1::rem.map (·.1));rw[gQ,hs1]at hr;dsimp only at hr;refine go ?_;exact ae (fG.map (·.1)++p.1::rem.map (·.1)) (hv:=rfl) (hp:=hX) (hk:=by rw[hr];exact aG.self _ _)
 ·refine go ?_;have hr:=hrun [];rw[gN]at hr;exact ae (fG.map (·.1)) (hv:=rfl) (hp:=hp.map (·.1)) (hk:=by rw[hr];apply aG.there;exact aG.all _)
structure M0 where
 c:Option Nat
 xs:List ByteArray
abbrev EA(b n:Nat)(ys:List ByteArray):OA:=Bq λc:Option Nat=>[pt b (.cells [gv aT.n c n]),ap aT (gv aT.n c n) ys]
theorem adU{fn:Fn}{first captured:List Value}{F1:List aF}{X:List ByteArray->Prop}(hit:rG Tryz.prog (λx:ByteArray=>[fP x]) fn first captured F1 X)(hl:∀xs,X xs->xs.length<=1000000):
 bn Tryz.prog (.func 310) [.slice none 0 0,.func fn ⟨first⟩ ⟨captured⟩] [] [] F1 (λy:M0=>gv aT.n y.c y.xs.length) (λy=>[ap aT (gv aT.n y.c y.xs.length) y.xs]) (λ_=>[]) (λy=>X y.xs):=by
 refine DZ _ (aO 310) λB w0=>?_;refine go ?_;intro b2;refine fZ aT ?_;rw[show Value.slice none 0 0=gv aT.n none 0 from rfl];refine uz (λc:Option Nat=>[pt b2 (.cells [gv aT.n c 0]),ap aT (gv aT.n c 0) ([]:List ByteArray)]) none (h:=?_);refine BF (A:=EA b2 0 ([]:List ByteArray)) (A':=EA b2 ([]:List ByteArray).length ([]:List ByteArray)) rfl ?_;refine Ea (Z:=Nat) (λ(ys:List ByteArray) (x:ByteArray)=>(ys++[x],Out.normal)) (λys=>[EA b2 ys.length ys]) (λvs ys=>ys=vs) [] _ (λ_ _=>[]) rfl (λvs s x rest hs hX _=>by rw[hs]) hit (by intro s x lo o B w0;refine go ?_;have z0:Nat:=0;exact zG z0 rfl) ?_ ?_ (λ_ _=>trivial)
 ·intro vs s x rest z lo L B w0 hs hx;subst hs;dsimp only[List.cons_append,List.nil_append];have hlen:s.length<=1000000:=by have:=hl _ hx;rw[gH,o8]at this;omega
  refine xR (h:=λc=>?_);generalize hv:gv aT.n c s.length=v;refine go ?_;intro b10;refine abV (xs:=s) aT x () (by omega) (next:=λcb=>?_);refine go ?_;rw[show Value.slice (some ⟨cb,0,some aT.n⟩) (s.length+1) (s.length+1)=gv aT.n (some cb) (s.length+1)from rfl];refine uz (λc:Option Nat=>[pt b2 (.cells [gv aT.n c (s.length+1)]),ap aT (gv aT.n c (s.length+1)) (s++[x])]) (some cb) (h:=?_);refine BF (A:=EA b2 (s.length+1) (s++[x])) (A':=EA b2 (s++[x]).length (s++[x])) (by rw[gH,uU]) ?_;exact uA () rfl trivial trivial
 ·intro r xs hX;have hrun:∀(ys zs:List ByteArray),ji (λ(ys:List ByteArray) (x:ByteArray)=>(ys++[x],Out.normal)) ys zs=(ys++zs,.normal):=by
   intro ys zs;induction zs generalizing ys with
   |nil=>simp[ji]
   |cons z zs ih=>rw[ji];simp only[ih];simp
  rw[hrun,bZ];dsimp only[List.cons_append,List.nil_append];refine xR (h:=λc=>?_);generalize hv:gv aT.n c xs.length=v;refine go ?_;subst hv;exact Br ⟨c,xs⟩ (hv:=rfl) (hp:=hX)
theorem adV{fn:Fn}{first captured:List Value}{F1:List aF}{X:List ByteArray->Prop}(hit:rG Tryz.prog (λx:ByteArray=>[fP x]) fn first captured F1 X)(hl:∀xs,X xs->xs.length<=1000000):
 bn Tryz.prog (.func 286) [.func fn ⟨first⟩ ⟨captured⟩] [] [] F1 (λy:M0=>gv aT.n y.c y.xs.length) (λy=>[ap aT (gv aT.n y.c y.xs.length) y.xs]) (λ_=>[]) (λy=>X y.xs):=by
 refine aI _ (aO 286) λB w0=>?_;refine go ?_;refine ax (adU hit hl) (next:=λy hy=>?_);dsimp only[List.cons_append,List.nil_append];refine go ?_;exact ae y (hv:=rfl) (hp:=hy)
theorem adW{fn:Fn}{first captured:List Value}{F1:List aF}{X:List ByteArray->Prop}(hit:rG Tryz.prog (λx:ByteArray=>[fP x]) fn first captured F1 X)(hl:∀xs,X xs->0<xs.length/\xs.length<=1000000):
 bn Tryz.prog (.func 252) [.func fn ⟨first⟩ ⟨captured⟩] [] [] F1 (λy:M0=>gv aT.n y.c y.xs.length) (λy=>[ap aT (gv aT.n y.c y.xs.length) (ng y.xs)]) (λ_=>[]) (λy=>X y.xs):=by
 refine aI _ (aO 252) λB w0=>?_;refine go ?_;refine ax (adV hit λxs hx=>(hl xs hx).2) (next:=λy hy=>?_);obtain⟨c,xs⟩:=y;dsimp only[List.cons_append,List.nil_append]at hy⊢;obtain⟨h0,hlen⟩:=hl _ hy;cases c with
 |none=>
  rw[show gv aT.n none xs.length=Value.slice none 0 0 from rfl];exact abW (xs:=xs) h0
 |some c=>
  rw[show gv aT.n (some c) xs.length=.slice (some ⟨c,0,some aT.n⟩) xs.length xs.length from rfl];refine go ?_;refine ax (adS (a:=some ⟨c,0,some aT.n⟩) (zs:=xs) rfl h0 (by omega)) (next:=λ_ _=>?_);refine go ?_;rw[show Value.slice (some ⟨c,0,some aT.n⟩) xs.length xs.length=gv aT.n (some c) xs.length from rfl];exact ae ⟨some c,xs⟩ (hv:=rfl) (hp:=hy)
