/-
  Part LibJR.
-/
import Derived.Test.YtpkieeggilkagaaGreatLibIR
set_option linter.all false
set_option maxRecDepth 10000
set_option maxHeartbeats 4000000
namespace Go.Proofs.YtpkieeggilkagaaGreat
open Go.Ideal Kd
structure JN(d:bG):Prop where
 cZ:∀s∈d.symbols,0<=s.value/\s.value<=99
 jP:∀r∈d.rules,uS (fF r.kind) d.aM r
 jB:∀(i:Nat) (c:jo),d.aM[i]? =some c->(d.rules.map (·.aB)).count (i:Int)=1/\ou c
theorem agl{d:bG}{vh vs vr vc vu:Value}(hS:mZ d):
 aV Tryz.prog (.func 242) [.agg ⟨gI d vh vs vr vc vu⟩] [] [] [ah fo vs d.symbols,ah bI vc d.aM,ah aZ vu d.rules] (λb:Bool=>.bool b) (λ_=>[]) (λ_=>[]) (λb=>b=true↔JN d):=by
 have hsl:=hS.cZ;have hcl:=hS.jB;have rU:=hS.jP;refine aC _ (aF 242) λB w0=>?_;refine aT (E:=fo) (v:=vs) (xs:=d.symbols) (by simp) λoz cs1 es=>?_;subst es;refine aT (E:=bI) (v:=vc) (xs:=d.aM) (by simp) λac cc ec=>?_;subst ec;refine aT (E:=aZ) (v:=vu) (xs:=d.rules) (by simp) λau cu eu=>?_;subst eu;refine go ?_;intro b1;refine aW (eB (b:=b1)) (h:=?_);refine go ?_;refine aR (λk:Nat=>d.symbols.length - k) (λk=>[(13,.int .i64 (k:Int))]) (λ_=>[]) (λ_=>[]) (λk=>k<=d.symbols.length/\∀s∈d.symbols.take k,0<=s.value/\s.value<=99) 0 ⟨bJ _,by simp⟩ (body:=?_);rintro k ⟨hk,hall⟩;refine go ?_;refine ay rfl (λh1=>?_) (λh1=>?_)
 ·refine go ?_;refine aU fo (xs:=d.symbols) (next:=λ_ _ s (_:Unit) hs=>?_);have hsm:=aP hs;refine go ?_;intro b4;refine go ?_;refine gG (λh2=>?_) (λh2=>?_)
  ·refine go ?_;refine ay rfl (λh3=>?_) (λh3=>?_)
   ·refine go ?_;exact ae false (hv:=rfl) (hp:=⟨(λh=>by cases h),λh=>by exfalso;have:=h.cZ s hsm;omega⟩)
   ·refine go ?_;refine aD (k+1) (by show d.symbols.length - (k+1)<d.symbols.length - k;omega) ⟨by omega,?_⟩;rw[bS hs];intro x hx;rcases dB.1 hx with hx|hx
    ·exact hall x hx
    ·rw[bM.1 hx];omega
  ·refine go ?_;exact ae false (hv:=rfl) (hp:=⟨(λh=>by cases h),λh=>by exfalso;have:=h.cZ s hsm;omega⟩)
 have hks:k=d.symbols.length:=by omega
 subst hks;rw[bC]at hall;refine go ?_;refine y7 jK (λbm=>?_);refine go ?_;refine aR (λk:Nat=>d.rules.length - k) (λk=>[(30,.int .i64 (k:Int))]) (λk=>[gQ jK bm (uP ((d.rules.take k).map (·.aB)))]) (λ_=>[]) (λk=>k<=d.rules.length/\∀r∈d.rules.take k,uS (fF r.kind) d.aM r) 0 ⟨bJ _,by simp⟩ (hk:=by repeat (first|exact aJ.nil|(apply aJ.cons;(focus (repeat (first|exact aA.here|apply aA.there)))))) (body:=?_);rintro k ⟨hk,Bc⟩;have hcn:∀c:Int,((d.rules.take k).map (·.aB)).count c<=4096:=λc=>by
  have:=Ug c ((d.rules.take k).map (·.aB));rw[dV,gL]at this;omega
 refine go ?_;refine ay rfl (λh1=>?_) (λh1=>?_)
 ·refine go ?_;refine aU aZ (xs:=d.rules) (next:=λ_ _ r (vv:Value×Value) hr=>?_);have hrm:=aP hr;have hrn:=hS.vY r hrm;refine go ?_;intro b7;refine go ?_;refine aj (agk (d:=d) (r:=r) (v1:=vv.1) (v2:=vv.2) hcl hrn.1 hrn.2) (next:=λb hb=>?_);cases b with
  |false=>
   refine go ?_;exact ae false (hv:=rfl) (hp:=⟨(λh=>by cases h),λh=>absurd (hb.2 (h.jP r hrm)) (by simp)⟩)
  |true=>
   have hR:=hb.1 rfl;have hc1:=hcn r.aB;have hst:uP ((d.rules.take (k+1)).map (·.aB))=upd r.aB (.int .i64 ((((d.rules.take k).map (·.aB)).count r.aB:Nat)+1)) (uP ((d.rules.take k).map (·.aB))):=by
    rw[bS hr,ed,oW,Ue]
   refine go ?_;refine E9 (bz:=jK) (b:=bm) (az:=uP ((d.rules.take k).map (·.aB))) zn r.aB ?_;rw[Uf];refine go ?_;refine xq (bz:=jK) (b:=bm) (v:=.int .i64 ((((d.rules.take k).map (·.aB)).count r.aB:Nat)+1)) (az:=uP ((d.rules.take k).map (·.aB))) zn r.aB ?_;rw[<- hst];refine go ?_;refine aD (k+1) (by show d.rules.length - (k+1)<d.rules.length - k;omega) ⟨by omega,?_⟩;rw[bS hr];intro x hx;rcases dB.1 hx with hx|hx
   ·exact Bc x hx
   ·rw[bM.1 hx];exact hR
 have hkr:k=d.rules.length:=by omega
 subst hkr;rw[bC]at Bc hcn⊢;refine go ?_;refine aR (λk:Nat=>d.aM.length - k) (λk=>[(47,.int .i64 (k:Int))]) (λ_=>[]) (λ_=>[]) (λk=>k<=d.aM.length/\∀(i:Nat) (c:jo),i<k->d.aM[i]? =some c->(d.rules.map (·.aB)).count (i:Int)=1/\ou c) 0 ⟨bJ _,λi c h=>by omega⟩ (body:=?_);rintro k ⟨hk,FV⟩;refine go ?_;refine ay rfl (λh1=>?_) (λh1=>?_)
 ·refine go ?_;refine aU bI (xs:=d.aM) (next:=λ_ _ c (_:Unit) hc=>?_);have hck:=hcn (k:Int);refine go ?_;intro b9;refine go ?_;refine E9 (bz:=jK) (b:=bm) (az:=uP (d.rules.map (·.aB))) zn (k:Int) ?_;rw[Uf];refine go ?_;refine gG (λh2=>?_) (λh2=>?_)
  ·refine go ?_;refine aj (af4 (c:=c)) (next:=λ_ _=>?_);refine go ?_;refine eX rfl (λh3=>?_) (λh3=>?_)
   ·refine go ?_;exact ae false (hv:=rfl) (hp:=⟨(λh=>by cases h),λh=>absurd (h.jB k c hc).2 h3⟩)
   ·refine go ?_;refine aD (k+1) (by show d.aM.length - (k+1)<d.aM.length - k;omega) ⟨by omega,λi x hi hx=>?_⟩;by_cases hik:i=k
    ·subst hik;rw[hc]at hx;cases hx;exact⟨by omega,h3⟩
    ·exact FV i x (by omega) hx
  ·refine go ?_;exact ae false (hv:=rfl) (hp:=⟨(λh=>by cases h),λh=>by exfalso;have:=(h.jB k c hc).1;omega⟩)
 have hkc:k=d.aM.length:=by omega
 subst hkc;refine go ?_;exact ae true (hv:=rfl) (hp:=⟨λ_=>⟨hall,Bc,λi c hc=>FV i c (bK.1 hc).1 hc⟩,λ_=>rfl⟩)
theorem agm{v:Value}{xs:List Int}:aV Tryz.prog (.func 261) [v] [] [] [ah aa v xs] (λb:Nat=>.func (.func 277) #[] #[ptr' b]) (λ_=>[]) (λb=>[bZ b 0 [v]]) (λ_=>True):=by
 refine aC _ (aF 261) λB w0=>?_;refine aT (E:=aa) (v:=v) (xs:=xs) (by simp) λa c e=>?_;subst e;refine go ?_;intro b1;refine go ?_;refine aW (eB (b:=b1)) (h:=?_);exact ae b1 (hv:=rfl) (hp:=trivial)
theorem agn{b:Nat}{v:Value}{xs:List Int}(hl:xs.length<9223372036854775808):y8 Tryz.prog (λx:Int=>[jK x]) (.func 277) [] [ptr' b] [bZ b 0 [v],ah aa v xs] (λys=>ys=xs):=by
 intro S inv ok step s0 qF y1 y2 F' h0 hok hy;rw[dW,dW,bY];refine aC _ (aF 277) λB w0=>?_;refine go ?_;refine aR (λy:Nat×S=>xs.length - y.1) (λy=>[(7,.int .i64 (y.1:Int))]) (λy=>inv y.2) (λ_=>[]) (λy=>y.1<=xs.length/\ok (xs.take y.1) y.2/\gq step y.2 (xs.drop y.1)=gq step s0 xs) (0,s0) ⟨bJ _,h0,rfl⟩ (body:=?_);rintro⟨k,s⟩ ⟨hk,hos,hrun⟩;dsimp only at hk hos hrun⊢;refine go ?_;refine ay rfl (λh1=>?_) (λh1=>?_)
 ·refine go ?_;intro _ _ x hx;have hd:xs.drop k=x::xs.drop (k+1):=by
   rw[nR (by omega)];congr 1;rw[bN (by omega)]at hx;exact Option.some.inj hx
  have hX:xs.take k++x::xs.drop (k+1)=xs:=by rw[<- hd,su]
  have nQ:=hy _ s _ _ hos hX;rw[hd,gq]at hrun;refine go ?_;refine aj nQ (next:=λ_ _=>?_);cases hst:(step s x).2 with
  |true=>
   have hs1:step s x=((step s x).1,true):=Prod.ext rfl hst;rw[hs1]at hrun;refine go ?_;refine aD (k+1,(step s x).1) (by show xs.length - (k+1)<xs.length - k;omega) ⟨by show k+1<=_;omega,?_,hrun⟩;show ok (xs.take (k+1)) _;rw[bS hx];exact hok _ s _ _ hos hX hst
  |false=>
   have hs1:step s x=((step s x).1,false):=Prod.ext rfl hst;rw[hs1]at hrun;dsimp only at hrun;refine go ?_;exact ae xs (hv:=rfl) (hp:=rfl) (hk:=by rw[<- hrun];exact aJ.all _)
 have hke:k=xs.length:=by omega
 subst hke;rw[Gn]at hrun;refine go ?_;exact ae xs (hv:=rfl) (hp:=rfl) (hk:=by rw[<- hrun];exact aJ.all _)
abbrev OB(P:Program)(fn:Fn)(first cap:List Value)(F:List aL)(p:List Int->Bool)(x:List Int):Prop:=
 ∀v:Value,aV P fn (first++[v]) cap [] (ah aa v x::F) (λ_:Unit=>.bool (p x)) (λ_=>[]) (λ_=>[]) (λ_=>True)
theorem agp{fn:Fn}{first cap:List Value}{F1:List aL}{p:List Int->Bool}{va:Value}{xs:List (List Int)}(hl:xs.length<9223372036854775808)(hp:∀x∈xs,OB Tryz.prog fn first cap F1 p x):
 aV Tryz.prog (.func 278) [va,.func fn ⟨first⟩ ⟨cap⟩] [] [ap (ax aa) va xs] F1 (λr:Int=>.int .i64 r) (λ_=>[ap (ax aa) va xs]) (λ_=>[]) (λr=>(0<=r↔xs.any p=true)):=by
 refine aC _ (aF 278) λB w0=>?_;refine qi (E:=ax aa) (v:=va) (xs:=xs) λa hv=>?_;subst hv;refine go ?_;refine aR (λk=>xs.length - k) (λk:Nat=>[(8,.int .i64 (k:Int))]) (λ_=>[]) (λ_=>[]) (λk=>k<=xs.length/\(xs.take k).any p=false) 0 ⟨by omega,by simp⟩ (body:=?_);rintro k ⟨hk,hno⟩;refine go ?_;refine ay rfl (λh1=>?_) (λh1=>?_)
 ·have hx:xs[k]? =some (xs[k]'(by omega)):=bN _;generalize xs[k]'(by omega)=x at hx;refine go ?_;refine I8 aa (v:=.slice a xs.length xs.length) (xss:=xs) k x hx (next:=λb o u=>?_);refine go ?_;refine aj (hp x (aP hx) u) (next:=λ_ _=>?_);refine go ?_;refine iZ rfl (λh2=>?_) (λh2=>?_)
  ·refine go ?_;exact ae (k:Int) (hv:=rfl) (hp:=⟨λ_=>List.any_eq_true.2 ⟨x,aP hx,h2⟩,λ_=>by omega⟩)
  ·refine go ?_;refine aD (k+1) (by omega) ⟨by omega,?_⟩;rw[bS hx,List.any_append,hno];simp[h2]
 refine go ?_;have:k=xs.length:=by omega
 subst this;rw[bC]at hno;exact ae (-1) (hv:=rfl) (hp:=⟨λh=>by omega,λh=>by rw[hno]at h;cases h⟩)
theorem agq{fn:Fn}{first cap:List Value}{F1:List aL}{p:List Int->Bool}{va:Value}{xs:List (List Int)}(hl:xs.length<9223372036854775808)(hp:∀x∈xs,OB Tryz.prog fn first cap F1 p x):
 aV Tryz.prog (.func 262) [va,.func fn ⟨first⟩ ⟨cap⟩] [] [ap (ax aa) va xs] F1 (λ_:Unit=>.bool (xs.any p)) (λ_=>[ap (ax aa) va xs]) (λ_=>[]) (λ_=>True):=by
 refine aC _ (aF 262) λB w0=>?_;refine go ?_;refine aj (agp hl hp) (next:=λr hr=>?_);refine go ?_;refine ae () (hv:=?_) (hp:=trivial);have:xs.any p=decide (0<=r):=by rw[yx,yB];exact hr.symm
 rw[this];rfl
theorem agr{b:Nat}{vx:Value}{zs:List Int}(hl:zs.length<9223372036854775808)(ys:List Int):OB Tryz.prog (.func 263) [] [ptr' b] [bZ b 0 [vx],ah aa vx zs] (λy=>decide (zs=y)) ys:=by
 intro v;rw[bY];refine aC _ (aF 263) λB w0=>?_;refine go ?_;refine aj (zk (xs:=zs) (ys:=ys) hl) (next:=λ_ _=>?_);refine go ?_;exact ae () (hv:=rfl) (hp:=trivial)
def zo(g:bD)(r:mQ):Prop:=(fH g/\ze g r.lists)/\(r.lists.map dD).Nodup
theorem ags{d:bG}{vh vs vr vc vu gh gc:Value}{g:bD}(hS:mZ d)(hG:qM g):
 aV Tryz.prog (.func 240) [.agg ⟨gI d vh vs vr vc vu⟩,.agg ⟨iW g gh gc⟩] [] [] (ah fA vr d.regions::jD g gh gc) (λe:Int=>.int .i64 e) (λ_=>[]) (λ_=>[]) (λe=>e=0↔∀r∈d.regions,zo g r):=by
 have hrl:=hS.regs;refine aC _ (aF 240) λB w0=>?_;refine aT (E:=fA) (v:=vr) (xs:=d.regions) (by simp) λar cr er=>?_;subst er;refine go ?_;intro b2 b3;refine aW (eB (b:=b2)) (h:=?_);refine aW (eB (b:=b3)) (h:=?_);refine go ?_;refine aR (λk:Nat=>d.regions.length - k) (λk=>[(16,.int .i64 (k:Int))]) (λ_=>[]) (λ_=>[]) (λk=>k<=d.regions.length/\∀r∈d.regions.take k,zo g r) 0 ⟨bJ _,by simp⟩ (body:=?_);rintro k ⟨hk,hall⟩;refine go ?_;refine ay rfl (λh1=>?_) (λh1=>?_)
 ·refine go ?_;refine aU fA (xs:=d.regions) (next:=λ_ _ r (vl:Value) hr=>?_);have hrm:=aP hr;obtain⟨hl1,hl2⟩:=hS.vZ r hrm;refine go ?_;intro b6;refine go ?_;refine aj (VI (g:=g) (vh:=gh) (vc:=gc) (vr:=vl) (rs:=r.lists) hG hl1 hl2) (next:=λy hy=>?_);obtain⟨v7,e⟩:=y;dsimp only at hy⊢;refine go ?_;refine ay rfl (λh2=>?_) (λh2=>?_)
  ·refine go ?_;exact ae e (hv:=rfl) (hp:=⟨(λh=>absurd h h2),λh=>absurd (hy.2 (h r hrm).1) h2⟩)
  have he:e=0:=gM.1 h2;obtain⟨hg,hro⟩:=hy.1 he;have hgl:=hg.len;have hrl2:=hro.len;refine aT (E:=ax aa) (v:=vl) (xs:=r.lists) (by simp) λal cl el=>?_;subst el;refine go ?_;refine fJ (ax aa) ?_;refine aR (λy:Nat×Value=>r.lists.length - y.1) (λy=>[(33,.int .i64 (y.1:Int)),(9,y.2)]) (λy=>[ap (ax aa) y.2 ((r.lists.take y.1).map dD)]) (λ_=>[]) (λy=>y.1<=r.lists.length/\((r.lists.take y.1).map dD).Nodup) (0,.slice none 0 0) ⟨bJ _,by simp⟩ (hk:=by repeat (first|exact aJ.nil|(apply aJ.cons;(focus (repeat (first|exact aA.here|apply aA.there)))))) (body:=?_);rintro⟨j,v9⟩ ⟨hj,hnd⟩;dsimp only at hj hnd⊢;have hjl:((r.lists.take j).map dD).length=j:=by rw[dV,gL];omega
  refine go ?_;refine ay rfl (λh3=>?_) (λh3=>?_)
  ·refine go ?_;refine aU (ax aa) (xs:=r.lists) (next:=λ_ _ ps (vp:Value) hps=>?_);have hpm:=aP hps;have hP:=hro.all ps hpm;have hpl:ps.length<=256:=by have:=Jm hP.mem hP.nd;omega
   refine go ?_;refine aj (agm (v:=vp) (xs:=ps)) (next:=λbv _=>?_);refine go ?_;refine aj (VH (agn (b:=bv) (v:=vp) (xs:=ps) (by omega)) (λys h=>by rw[h];omega)) (next:=λy hy2=>?_);obtain⟨v39,zs⟩:=y;dsimp only[List.cons_append,List.nil_append]at hy2⊢;subst hy2;have hzl:=Av zs;refine aW (fG (E:=aa) (v:=v39) (xs:=dD zs)) (h:=?_);refine aT (E:=aa) (v:=v39) (xs:=dD zs) (by simp) λa39 OC e39=>?_;subst e39;refine go ?_;intro b12;refine aW (eB (b:=b12)) (h:=?_);refine go ?_;refine aj (agq (fn:=.func 263) (first:=[]) (cap:=[ptr' b12]) (F1:=[bZ b12 0 [.slice a39 (dD zs).length OC],ah aa (.slice a39 (dD zs).length OC) (dD zs)]) (p:=λy=>decide (dD zs=y)) (va:=v9) (xs:=(r.lists.take j).map dD) (by omega) (λx _=>agr (by omega) x)) (next:=λ_ _=>?_);have htk:(r.lists.take (j+1)).map dD=(r.lists.take j).map dD++[dD zs]:=by rw[bS hps,ed,oW]
   refine go ?_;refine iZ rfl (λh4=>?_) (λh4=>?_)
   ·refine go ?_;refine ae 161 (hv:=rfl) (hp:=⟨(λh=>by cases h),λh=>?_⟩)
    exfalso
    have h5:=(h r hrm).2;have h6:((r.lists.take (j+1)).map dD).Nodup:=h5.sublist ((DR _ _).map _);rw[htk,iq]at h6;obtain⟨x,hx,hx2⟩:=List.any_eq_true.1 h4;exact h6.2.2 x hx _ (bM.2 rfl) (iw hx2).symm
   ·refine go ?_;intro b45;refine go ?_;refine eG (xs:=(r.lists.take j).map dD) (ax aa) (dD zs) (.slice a39 (dD zs).length OC) (by omega) (next:=λad=>?_);rw[<- htk];refine go ?_;refine aD (j+1,.slice ad (((r.lists.take j).map dD).length+1) (((r.lists.take j).map dD).length+1)) (by show r.lists.length - (j+1)<r.lists.length - j;omega) ⟨by show j+1<=_;omega,?_⟩;show((r.lists.take (j+1)).map dD).Nodup;rw[htk,iq];refine⟨hnd,by simp,λa ha b hb e=>?_⟩;rw[bM.1 hb]at e;subst e;rw[List.any_eq_false]at h4;exact h4 _ ha (dQ rfl)
  have fK:j=r.lists.length:=by omega
  subst fK;rw[bC]at hnd;refine go ?_;refine aD (k+1) (by show d.regions.length - (k+1)<d.regions.length - k;omega) ⟨by omega,?_⟩;rw[bS hr];intro x hx;rcases dB.1 hx with hx|hx
  ·exact hall x hx
  ·rw[bM.1 hx];exact⟨⟨hg,hro⟩,hnd⟩
 have hke:k=d.regions.length:=by omega
 subst hke;rw[bC]at hall;refine go ?_;exact ae 0 (hv:=rfl) (hp:=⟨λ_=>hall,λ_=>rfl⟩)
structure VL(d:bG):Prop where
 s0:0<d.symbols.length
 s1:d.symbols.length<=16
 r:d.regions.length<=4
 c:d.aM.length<=4
 u:d.rules.length<=16
structure FW(d:bG):Prop where
 lim:VL d
 rs:CR d
 same:Kd.bH d=d
 OD:1<=d.version/\d.version<=255
 Dg:oM d.shape d.w d.h d.holes
 Bd:∀r∈d.regions,zo (aQ d) r
 form:JN d
 read:jl d.rules=[]
structure uT(d:bG):Prop where
 s:mZ d
 w:kD d.w
 h:kD d.h
 holes:d.holes.length<4611686018427387904
theorem FX{d:bG}(hm:oM d.shape d.w d.h d.holes):qM (aQ d):=by
 have hb:=xE hm.wi hm.he;have h1:=hm.wi;have h2:=hm.he;have h3:=hm.len;have h4:=CS (d.w*d.h).toNat d.holes;refine⟨?_,?_,?_,?_⟩
 ·show kD d.w;unfold kD;omega
 ·show kD d.h;unfold kD;omega
 ·show d.holes.length<_;omega
 ·show(mU d.w d.h d.holes).length<_;unfold mU;omega
abbrev tF(b:Nat)(d:bG)(vh vs vr vc vu:Value):List aL:=bZ b 0 (gI d vh vs vr vc vu)::mi d vh vs vr vc vu
theorem agu{b:Nat}{d:bG}{vh vs vr vc vu:Value}(hS:mZ d):aV Tryz.prog (.func 234) [] [ptr' b] [] (tF b d vh vs vr vc vu) (λe:Int=>.int .i64 e) (λ_=>[]) (λ_=>[]) (λe=>e=0↔VL d):=by
 have hsl:=hS.cZ;have hrl:=hS.regs;have hcl:=hS.jB;have rU:=hS.jP;refine aC _ (aF 234) λB w0=>?_;refine go ?_;refine gG (λh1=>?_) (λh1=>?_)
 ·refine go ?_;refine aj (qN (b:=false) (e:=2)) (next:=λ_ _=>?_);refine go ?_;refine ae _ (hv:=rfl) (hp:=⟨λh=>?_,λh=>?_⟩)
  ·cases h
  ·exact absurd h.s0 (by omega)
 refine go ?_;refine gG (λh2=>?_) (λh2=>?_)
 ·refine go ?_;refine aj (qN (b:=false) (e:=2)) (next:=λ_ _=>?_);refine go ?_;refine ae _ (hv:=rfl) (hp:=⟨λh=>?_,λh=>?_⟩)
  ·cases h
  ·exact absurd h.s1 (by omega)
 refine go ?_;refine gG (λh3=>?_) (λh3=>?_)
 ·refine go ?_;refine aj (qN (b:=false) (e:=2)) (next:=λ_ _=>?_);refine go ?_;refine ae _ (hv:=rfl) (hp:=⟨λh=>?_,λh=>?_⟩)
  ·cases h
  ·exact absurd h.r (by omega)
 refine go ?_;refine gG (λh4=>?_) (λh4=>?_)
 ·refine go ?_;refine aj (qN (b:=false) (e:=2)) (next:=λ_ _=>?_);refine go ?_;refine ae _ (hv:=rfl) (hp:=⟨λh=>?_,λh=>?_⟩)
  ·cases h
  ·exact absurd h.c (by omega)
 refine go ?_;by_cases h5:d.rules.length<=16
 ·rw[show decide ((d.rules.length:Int)<=16)=true from dQ (by omega)];refine aj (qN (b:=true) (e:=2)) (next:=λ_ _=>?_);refine go ?_;refine ae _ (hv:=rfl) (hp:=⟨λh=>?_,λh=>?_⟩)
  ·exact⟨by omega,by omega,by omega,by omega,h5⟩
  ·rfl
 ·rw[show decide ((d.rules.length:Int)<=16)=false from aS (by omega)];refine aj (qN (b:=false) (e:=2)) (next:=λ_ _=>?_);refine go ?_;refine ae _ (hv:=rfl) (hp:=⟨λh=>?_,λh=>?_⟩)
  ·cases h
  ·exact absurd h.u h5
theorem mZ.bH{d:bG}(hS:mZ d):mZ (Kd.bH d):=by
 refine⟨hS.cZ,hS.regs,?_,?_,?_,hS.holes,hS.vZ⟩
 ·show(d.aM.map _).length<=_;rw[dV];exact hS.jB
 ·show(d.rules.map _).length<=_;rw[dV];exact hS.jP
 ·intro r hr;obtain⟨q,hq,rfl⟩:=eT.1 (show r∈d.rules.map _ from hr);exact hS.vY q hq
theorem agv{b:Nat}{d:bG}{vh vs vr vc vu:Value}(hS:mZ d):aV Tryz.prog (.func 236) [] [ptr' b] [] (tF b d vh vs vr vc vu) (λe:Int=>.int .i64 e) (λ_=>[]) (λ_=>[]) (λe=>e=0↔CR d/\Kd.bH d=d):=by
 refine aC _ (aF 236) λB w0=>?_;refine go ?_;refine aj (Vr (d:=d) hS) (next:=λy hy=>?_);obtain⟨ok,e,v1,v2⟩:=y;dsimp only[rT,oO,AY]at hy⊢;cases ok with
 |false=>
  obtain⟨he,hno⟩:=hy.2 rfl;dsimp only[cond];refine go ?_;intro b2;refine go ?_;refine ay rfl (λh1=>?_) (λh1=>?_)
  ·refine go ?_;exact ae e (hv:=rfl) (hp:=⟨λh=>absurd h he,λh=>absurd h.1 hno⟩)
  ·exact absurd (gM.1 h1) he
 |true=>
  obtain⟨he,hres⟩:=hy.1 rfl;subst he;dsimp only[cond,List.cons_append,List.nil_append];refine go ?_;intro b2;refine go ?_;have hsy:bV Tryz.prog 144 [.agg ⟨gI (Kd.bH d) vh vs vr v1 v2⟩,.agg ⟨gI d vh vs vr vc vu⟩] [ah aa vh d.holes,ah fo vs d.symbols,ah fA vr d.regions,ah bI v1 (Kd.bH d).aM,ah aZ v2 (Kd.bH d).rules,ah bI vc d.aM,ah aZ vu d.rules] (.bool (decide (Kd.bH d=d))):=
   (Vw (x:=Kd.bH d) (y:=d) (h1:=vh) (s1:=vs) (r1:=vr) (c1:=v1) (u1:=v2) (h2:=vh) (s2:=vs) (r2:=vr) (c2:=vc) (u2:=vu) hS.bH).facts (λf hf=>by
     simp only[mi,dW,bY,dG,Ki,or_false]at hf⊢;rcases hf with rfl|rfl|rfl|rfl|rfl|rfl|rfl|rfl|rfl|rfl
     ·exact .inl rfl
     ·exact .inr (.inl rfl)
     ·exact .inr (.inr (.inl rfl))
     ·simp
     ·simp
     ·exact .inl rfl
     ·exact .inr (.inl rfl)
     ·exact .inr (.inr (.inl rfl))
     ·simp
     ·simp)
  refine aj hsy (next:=λ_ _=>?_);refine go ?_;by_cases hr:Kd.bH d=d
  ·rw[dQ hr];refine aj (qN (b:=true) (e:=170)) (next:=λ_ _=>?_);refine go ?_;exact ae 0 (hv:=rfl) (hp:=⟨λ_=>⟨hres,hr⟩,λ_=>rfl⟩)
  ·rw[aS hr];refine aj (qN (b:=false) (e:=170)) (next:=λ_ _=>?_);refine go ?_;exact ae 170 (hv:=rfl) (hp:=⟨(λh=>by cases h),λh=>absurd h.2 hr⟩)
theorem agw{b:Nat}{d:bG}{vh vs vr vc vu:Value}:aV Tryz.prog (.func 237) [] [ptr' b] [] (tF b d vh vs vr vc vu) (λe:Int=>.int .i64 e) (λ_=>[]) (λ_=>[]) (λe=>e=0↔(1<=d.version/\d.version<=255)):=by
 refine aC _ (aF 237) λB w0=>?_;refine go ?_;refine gG (λh1=>?_) (λh1=>?_)
 ·refine go ?_;refine aj (qN (b:=false) (e:=170)) (next:=λ_ _=>?_);refine go ?_;exact ae 170 (hv:=rfl) (hp:=⟨(λh=>by cases h),λh=>by exfalso;omega⟩)
 refine go ?_;by_cases h2:d.version<=255
 ·rw[dQ h2];refine aj (qN (b:=true) (e:=170)) (next:=λ_ _=>?_);refine go ?_;exact ae 0 (hv:=rfl) (hp:=⟨λ_=>⟨by omega,h2⟩,λ_=>rfl⟩)
 ·rw[aS h2];refine aj (qN (b:=false) (e:=170)) (next:=λ_ _=>?_);refine go ?_;exact ae 170 (hv:=rfl) (hp:=⟨(λh=>by cases h),λh=>absurd h.2 h2⟩)
theorem agx{b bg:Nat}{d:bG}{vh vs vr vc vu:Value}(hT:uT d):aV Tryz.prog (.func 238) [] [ptr' b,ptr' bg] [pt bg (.cells FN)] (tF b d vh vs vr vc vu) (λy:Ol=>.int .i64 (cond y.ok 0 130))
 (λy=>[pt bg (.cells (cond y.ok (iW (wm d.shape d.w d.h d.holes) y.vh y.vc) FN))]) (pG d.shape d.w d.h d.holes) (λy=>y.ok=true↔oM d.shape d.w d.h d.holes):=by
 refine aC _ (aF 238) λB w0=>?_;refine go ?_;refine aj (Om (s:=d.shape) (w:=d.w) (h:=d.h) (holes:=d.holes) (vh:=vh) hT.w hT.h hT.holes) (next:=λy hy=>?_);obtain⟨ok,v1,v2⟩:=y;cases ok with
 |false=>
  dsimp only[mkV,pG,cond,List.nil_append]at hy⊢;refine go ?_;exact ae ⟨false,v1,v2⟩ (hv:=rfl) (hp:=hy)
 |true=>
  dsimp only[mkV,pG,cond,jD,wm,List.cons_append,List.nil_append]at hy⊢;refine go ?_;exact ae ⟨true,v1,v2⟩ (hv:=rfl) (hp:=hy) (hF:=by show Sub [ah aa v1 d.holes,ah aa v2 (mU d.w d.h d.holes)] _;exact .cons (by simp) (.cons (by simp) .nil))
theorem agy{b bg:Nat}{d:bG}{vh vs vr vc vu gh gc:Value}{g:bD}(hS:mZ d)(hG:qM g):aV Tryz.prog (.func 239) [] [ptr' b,ptr' bg] [] (bZ bg 0 (iW g gh gc)::ah aa gh g.holes::ah aa gc g.cells::tF b d vh vs vr vc vu) (λe:Int=>.int .i64 e) (λ_=>[]) (λ_=>[]) (λe=>e=0↔∀r∈d.regions,zo g r):=by
 refine aC _ (aF 239) λB w0=>?_;refine go ?_;refine aj (ags (d:=d) (g:=g) (gh:=gh) (gc:=gc) hS hG) (next:=λe he=>?_);refine go ?_;exact ae e (hv:=rfl) (hp:=he)
theorem agz{b:Nat}{d:bG}{vh vs vr vc vu:Value}(hS:mZ d):aV Tryz.prog (.func 241) [] [ptr' b] [] (tF b d vh vs vr vc vu) (λe:Int=>.int .i64 e) (λ_=>[]) (λ_=>[]) (λe=>e=0↔JN d):=by
 refine aC _ (aF 241) λB w0=>?_;refine go ?_;refine aj (agl (d:=d) hS) (next:=λc hc=>?_);refine go ?_;refine aj (qN (b:=c) (e:=170)) (next:=λ_ _=>?_);refine go ?_;cases c with
 |false=>exact ae 170 (hv:=rfl) (hp:=⟨(λh=>by cases h),λh=>absurd (hc.2 h) (by simp)⟩)
 |true=>exact ae 0 (hv:=rfl) (hp:=⟨λ_=>hc.1 rfl,λ_=>rfl⟩)
theorem agA{b:Nat}{d:bG}{vh vs vr vc vu:Value}(hS:mZ d):aV Tryz.prog (.func 243) [] [ptr' b] [] (tF b d vh vs vr vc vu) (λe:Int=>.int .i64 e) (λ_=>[]) (λ_=>[]) (λe=>e=0↔jl d.rules=[]):=by
 refine aC _ (aF 243) λB w0=>?_;refine go ?_;refine aj (af3 (d:=d) hS.jP) (next:=λv _=>?_);refine go ?_;by_cases h:jl d.rules=[]
 ·rw[show decide (((jl d.rules).length:Int)=0)=true from dQ (by rw[h];rfl)];refine aj (qN (b:=true) (e:=171)) (next:=λ_ _=>?_);refine go ?_;exact ae 0 (hv:=rfl) (hp:=⟨λ_=>h,λ_=>rfl⟩)
 ·rw[show decide (((jl d.rules).length:Int)=0)=false from aS (λe=>h (jQ.1 (by omega)))];refine aj (qN (b:=false) (e:=171)) (next:=λ_ _=>?_);refine go ?_;exact ae 171 (hv:=rfl) (hp:=⟨(λh=>by cases h),λe=>absurd e h⟩)
theorem agB{d:bG}{vh vs vr vc vu:Value}(hT:uT d):aV Tryz.prog (.func 183) [.agg ⟨gI d vh vs vr vc vu⟩] [] [] (mi d vh vs vr vc vu) (λe:Int=>.int .i64 e) (λ_=>[]) (λ_=>[]) (λe=>e=0↔FW d):=by
 have hS:=hT.s;refine aC _ (aF 183) λB w0=>?_;refine go ?_;intro b1 b3 b14;refine aW (eB (b:=b1)) (h:=?_);refine go ?_;refine pX ?_;refine go ?_;refine aj (agu (b:=b1) (d:=d) hS) (next:=λe he=>?_);refine go ?_;refine ay rfl (λhne=>?_) (λhz=>?_)
 ·refine go ?_;exact ae e (hv:=rfl) (hp:=⟨λh=>absurd h hne,λh=>absurd (he.2 h.lim) hne⟩)
 have k1:=he.1 (gM.1 hz);clear hz he;refine go ?_;refine pX ?_;refine go ?_;refine aj (agv (b:=b1) (d:=d) hS) (next:=λe he=>?_);refine go ?_;refine ay rfl (λhne=>?_) (λhz=>?_)
 ·refine go ?_;exact ae e (hv:=rfl) (hp:=⟨λh=>absurd h hne,λh=>absurd (he.2 ⟨h.rs,h.same⟩) hne⟩)
 have k2:=he.1 (gM.1 hz);clear hz he;refine go ?_;refine pX ?_;refine go ?_;refine aj (agw (b:=b1) (d:=d)) (next:=λe he=>?_);refine go ?_;refine ay rfl (λhne=>?_) (λhz=>?_)
 ·refine go ?_;exact ae e (hv:=rfl) (hp:=⟨λh=>absurd h hne,λh=>absurd (he.2 h.OD) hne⟩)
 have k3:=he.1 (gM.1 hz);clear hz he;refine go ?_;refine pX ?_;refine go ?_;refine aj (agx (b:=b1) (bg:=b3) (d:=d) hT) (next:=λy hy=>?_);obtain⟨ok,gh,gc⟩:=y;cases ok with
 |false=>
  dsimp only[cond,pG,List.cons_append,List.nil_append]at hy⊢;refine go ?_;exact ae 130 (hv:=rfl) (hp:=⟨(λh=>by cases h),λh=>absurd (hy.2 h.Dg) (by simp)⟩)
 |true=>
 have hmk:=hy.1 rfl;have hG:=FX hmk;dsimp only[cond,pG];rw[show wm d.shape d.w d.h d.holes=aQ d from rfl];dsimp only[jD,List.cons_append,List.nil_append];refine aW (eB (b:=b3)) (h:=?_);refine go ?_;refine pX ?_;refine go ?_;refine aj (agy (b:=b1) (bg:=b3) (d:=d) (g:=aQ d) (gh:=gh) (gc:=gc) hS hG) (next:=λe he=>?_);refine go ?_;refine ay rfl (λhne=>?_) (λhz=>?_)
 ·refine go ?_;exact ae e (hv:=rfl) (hp:=⟨λh=>absurd h hne,λh=>absurd (he.2 h.Bd) hne⟩)
 have k5:=he.1 (gM.1 hz);clear hz he;refine go ?_;refine pX ?_;refine go ?_;refine aj (agz (b:=b1) (d:=d) hS) (next:=λe he=>?_);refine go ?_;refine ay rfl (λhne=>?_) (λhz=>?_)
 ·refine go ?_;exact ae e (hv:=rfl) (hp:=⟨λh=>absurd h hne,λh=>absurd (he.2 h.form) hne⟩)
 have k6:=he.1 (gM.1 hz);clear hz he;refine go ?_;refine pX ?_;refine go ?_;refine aj (agA (b:=b1) (d:=d) hS) (next:=λe he=>?_);refine go ?_;refine ay rfl (λhne=>?_) (λhz=>?_)
 ·refine go ?_;exact ae e (hv:=rfl) (hp:=⟨λh=>absurd h hne,λh=>absurd (he.2 h.read) hne⟩)
 have k7:=he.1 (gM.1 hz);clear hz he;refine go ?_;refine pX ?_;refine go ?_;exact ae 0 (hv:=rfl) (hp:=⟨λ_=>⟨k1,k2.1,k2.2,k3,hmk,k5,k6,k7⟩,λ_=>rfl⟩)
