/-
  Part LibGX.
-/
import Derived.Test.YtoilpafpgndilaaGreatLibFX
set_option linter.all false
set_option maxRecDepth 10000
set_option maxHeartbeats 4000000
namespace Go.Proofs.YtoilpafpgndilaaGreat
open Go.Ideal Kd
structure JP(d:bF):Prop where
 eH:∀s∈d.symbols,0<=s.value/\s.value<=99
 kX:∀r∈d.rules,wJ (fM r.kind) d.aJ r
 jg:∀(i:Nat) (c:gW),d.aJ[i]? =some c->(d.rules.map (·.aL)).count (i:Int)=1/\qR c
theorem agw{d:bF}{vh vs vr vc vu:Value}(hS:ng d):
 bA Tryz.prog (.func 304) [.agg ⟨gB d vh vs vr vc vu⟩] [] [] [ai fF vs d.symbols,ai bI vc d.aJ,ai aY vu d.rules] (λb:Bool=>.bool b) (λ_=>[]) (λ_=>[]) (λb=>b=true↔JP d):=by
 have hsl:=hS.eH;have hcl:=hS.jg;have yc:=hS.kX;refine aM _ (aP 304) λB w0=>?_;refine aS (E:=fF) (v:=vs) (xs:=d.symbols) (by simp) λkY cs1 es=>?_;subst es;refine aS (E:=bI) (v:=vc) (xs:=d.aJ) (by simp) λac cc ec=>?_;subst ec;refine aS (E:=aY) (v:=vu) (xs:=d.rules) (by simp) λau cu eu=>?_;subst eu;refine go ?_;intro b1;refine bn (eX (b:=b1)) (h:=?_);refine go ?_;refine aU (λk:Nat=>d.symbols.length - k) (λk=>[(13,.int .i64 (k:Int))]) (λ_=>[]) (λ_=>[]) (λk=>k<=d.symbols.length/\∀s∈d.symbols.take k,0<=s.value/\s.value<=99) 0 ⟨bR _,by simp⟩ (body:=?_);rintro k ⟨hk,hall⟩;refine go ?_;refine aA rfl (λh1=>?_) (λh1=>?_)
 ·refine go ?_;refine bi fF (xs:=d.symbols) (next:=λ_ _ s (_:Unit) hs=>?_);have hsm:=aZ hs;refine go ?_;intro b4;refine go ?_;refine gG (λh2=>?_) (λh2=>?_)
  ·refine go ?_;refine aA rfl (λh3=>?_) (λh3=>?_)
   ·refine go ?_;exact ah false (hv:=rfl) (hp:=⟨(λh=>by cases h),λh=>by exfalso;have:=h.eH s hsm;omega⟩)
   ·refine go ?_;refine aN (k+1) (by show d.symbols.length - (k+1)<d.symbols.length - k;omega) ⟨by omega,?_⟩;rw[bZ hs];intro x hx;rcases dX.1 hx with hx|hx
    ·exact hall x hx
    ·rw[bM.1 hx];omega
  ·refine go ?_;exact ah false (hv:=rfl) (hp:=⟨(λh=>by cases h),λh=>by exfalso;have:=h.eH s hsm;omega⟩)
 have hks:k=d.symbols.length:=by omega
 subst hks;rw[bU]at hall;refine go ?_;refine y8 jF (λbm=>?_);refine go ?_;refine aU (λk:Nat=>d.rules.length - k) (λk=>[(30,.int .i64 (k:Int))]) (λk=>[gP jF bm (uV ((d.rules.take k).map (·.aL)))]) (λ_=>[]) (λk=>k<=d.rules.length/\∀r∈d.rules.take k,wJ (fM r.kind) d.aJ r) 0 ⟨bR _,by simp⟩ (hk:=by repeat (first|exact aI.nil|(apply aI.cons;(focus (repeat (first|exact az.here|apply az.there)))))) (body:=?_);rintro k ⟨hk,Bq⟩;have hcn:∀c:Int,((d.rules.take k).map (·.aL)).count c<=4096:=λc=>by
  have:=Ux c ((d.rules.take k).map (·.aL));rw[bY,gT]at this;omega
 refine go ?_;refine aA rfl (λh1=>?_) (λh1=>?_)
 ·refine go ?_;refine bi aY (xs:=d.rules) (next:=λ_ _ r (vv:Value×Value) hr=>?_);have hrm:=aZ hr;have hrn:=hS.rY r hrm;refine go ?_;intro b7;refine go ?_;refine ay (agv (d:=d) (r:=r) (v1:=vv.1) (v2:=vv.2) hcl hrn.1 hrn.2) (next:=λb hb=>?_);cases b with
  |false=>
   refine go ?_;exact ah false (hv:=rfl) (hp:=⟨(λh=>by cases h),λh=>absurd (hb.2 (h.kX r hrm)) (by simp)⟩)
  |true=>
   have hR:=hb.1 rfl;have hc1:=hcn r.aL;have hst:uV ((d.rules.take (k+1)).map (·.aL))=upd r.aL (.int .i64 ((((d.rules.take k).map (·.aL)).count r.aL:Nat)+1)) (uV ((d.rules.take k).map (·.aL))):=by
    rw[bZ hr,fP,sQ,Uv]
   refine go ?_;refine E9 (aX:=jF) (b:=bm) (aj:=uV ((d.rules.take k).map (·.aL))) zw r.aL ?_;rw[Uw];refine go ?_;refine xN (aX:=jF) (b:=bm) (v:=.int .i64 ((((d.rules.take k).map (·.aL)).count r.aL:Nat)+1)) (aj:=uV ((d.rules.take k).map (·.aL))) zw r.aL ?_;rw[<- hst];refine go ?_;refine aN (k+1) (by show d.rules.length - (k+1)<d.rules.length - k;omega) ⟨by omega,?_⟩;rw[bZ hr];intro x hx;rcases dX.1 hx with hx|hx
   ·exact Bq x hx
   ·rw[bM.1 hx];exact hR
 have hkr:k=d.rules.length:=by omega
 subst hkr;rw[bU]at Bq hcn⊢;refine go ?_;refine aU (λk:Nat=>d.aJ.length - k) (λk=>[(47,.int .i64 (k:Int))]) (λ_=>[]) (λ_=>[]) (λk=>k<=d.aJ.length/\∀(i:Nat) (c:gW),i<k->d.aJ[i]? =some c->(d.rules.map (·.aL)).count (i:Int)=1/\qR c) 0 ⟨bR _,λi c h=>by omega⟩ (body:=?_);rintro k ⟨hk,FN⟩;refine go ?_;refine aA rfl (λh1=>?_) (λh1=>?_)
 ·refine go ?_;refine bi bI (xs:=d.aJ) (next:=λ_ _ c (_:Unit) hc=>?_);have hck:=hcn (k:Int);refine go ?_;intro b9;refine go ?_;refine E9 (aX:=jF) (b:=bm) (aj:=uV (d.rules.map (·.aL))) zw (k:Int) ?_;rw[Uw];refine go ?_;refine gG (λh2=>?_) (λh2=>?_)
  ·refine go ?_;refine ay (agd (c:=c)) (next:=λ_ _=>?_);refine go ?_;refine fq rfl (λh3=>?_) (λh3=>?_)
   ·refine go ?_;exact ah false (hv:=rfl) (hp:=⟨(λh=>by cases h),λh=>absurd (h.jg k c hc).2 h3⟩)
   ·refine go ?_;refine aN (k+1) (by show d.aJ.length - (k+1)<d.aJ.length - k;omega) ⟨by omega,λi x hi hx=>?_⟩;by_cases hik:i=k
    ·subst hik;rw[hc]at hx;cases hx;exact⟨by omega,h3⟩
    ·exact FN i x (by omega) hx
  ·refine go ?_;exact ah false (hv:=rfl) (hp:=⟨(λh=>by cases h),λh=>by exfalso;have:=(h.jg k c hc).1;omega⟩)
 have hkc:k=d.aJ.length:=by omega
 subst hkc;refine go ?_;exact ah true (hv:=rfl) (hp:=⟨λ_=>⟨hall,Bq,λi c hc=>FN i c (bq.1 hc).1 hc⟩,λ_=>rfl⟩)
noncomputable def abw:=uE Tryz.prog 95
theorem aii:mO Tryz.prog 95=some abw:=by kernel_rfl
noncomputable def acy:=uE Tryz.prog 127
theorem aij:mO Tryz.prog 127=some acy:=by kernel_rfl
noncomputable def acL:=uE Tryz.prog 96
theorem aik:mO Tryz.prog 96=some acL:=by kernel_rfl
theorem agx{v:Value}{xs:List Int}:bA Tryz.prog (.func 95) [v] [] [] [ai ae v xs] (λb:Nat=>.func (.func 127) #[] #[ptr' b]) (λ_=>[]) (λb=>[gY b 0 [v]]) (λ_=>True):=by
 refine aM abw aii λB w0=>?_;refine aS (E:=ae) (v:=v) (xs:=xs) (by simp) λa c e=>?_;subst e;refine go ?_;intro b1;refine go ?_;refine bn (eX (b:=b1)) (h:=?_);exact ah b1 (hv:=rfl) (hp:=trivial)
theorem agy{b:Nat}{v:Value}{xs:List Int}(hl:xs.length<9223372036854775808):y9 Tryz.prog (λx:Int=>[jF x]) (.func 127) [] [ptr' b] [gY b 0 [v],ai ae v xs] (λys=>ys=xs):=by
 intro S inv ok step s0 Fb y1 y2 F' h0 hok hy;rw[fV,fV,dY];refine aM acy aij λB w0=>?_;refine go ?_;refine aU (λy:Nat×S=>xs.length - y.1) (λy=>[(7,.int .i64 (y.1:Int))]) (λy=>inv y.2) (λ_=>[]) (λy=>y.1<=xs.length/\ok (xs.take y.1) y.2/\mD step y.2 (xs.drop y.1)=mD step s0 xs) (0,s0) ⟨bR _,h0,rfl⟩ (body:=?_);rintro⟨k,s⟩ ⟨hk,hos,hrun⟩;dsimp only at hk hos hrun⊢;refine go ?_;refine aA rfl (λh1=>?_) (λh1=>?_)
 ·refine go ?_;intro _ _ x hx;have hd:xs.drop k=x::xs.drop (k+1):=by
   rw[oU (by omega)];congr 1;rw[bP (by omega)]at hx;exact Option.some.inj hx
  have hX:xs.take k++x::xs.drop (k+1)=xs:=by rw[<- hd,uq]
  have Bi:=hy _ s _ _ hos hX;rw[hd,mD]at hrun;refine go ?_;refine ay Bi (next:=λ_ _=>?_);cases hst:(step s x).2 with
  |true=>
   have hs1:step s x=((step s x).1,true):=Prod.ext rfl hst;rw[hs1]at hrun;refine go ?_;refine aN (k+1,(step s x).1) (by show xs.length - (k+1)<xs.length - k;omega) ⟨by show k+1<=_;omega,?_,hrun⟩;show ok (xs.take (k+1)) _;rw[bZ hx];exact hok _ s _ _ hos hX hst
  |false=>
   have hs1:step s x=((step s x).1,false):=Prod.ext rfl hst;rw[hs1]at hrun;dsimp only at hrun;refine go ?_;exact ah xs (hv:=rfl) (hp:=rfl) (hk:=by rw[<- hrun];exact aI.all _)
 have hke:k=xs.length:=by omega
 subst hke;rw[List.drop_length]at hrun;refine go ?_;exact ah xs (hv:=rfl) (hp:=rfl) (hk:=by rw[<- hrun];exact aI.all _)
abbrev OC(P:Program)(fn:Fn)(first cap:List Value)(F:List aO)(p:List Int->Bool)(x:List Int):Prop:=
 ∀v:Value,bA P fn (first++[v]) cap [] (ai ae v x::F) (λ_:Unit=>.bool (p x)) (λ_=>[]) (λ_=>[]) (λ_=>True)
theorem agz{fn:Fn}{first cap:List Value}{F1:List aO}{p:List Int->Bool}{va:Value}{xs:List (List Int)}(hl:xs.length<9223372036854775808)(hp:∀x∈xs,OC Tryz.prog fn first cap F1 p x):
 bA Tryz.prog (.func 96) [va,.func fn ⟨first⟩ ⟨cap⟩] [] [ap (ak ae) va xs] F1 (λr:Int=>.int .i64 r) (λ_=>[ap (ak ae) va xs]) (λ_=>[]) (λr=>(0<=r↔xs.any p=true)):=by
 refine aM acL aik λB w0=>?_;refine pO (E:=ak ae) (v:=va) (xs:=xs) λa hv=>?_;subst hv;refine go ?_;refine aU (λk=>xs.length - k) (λk:Nat=>[(8,.int .i64 (k:Int))]) (λ_=>[]) (λ_=>[]) (λk=>k<=xs.length/\(xs.take k).any p=false) 0 ⟨by omega,by simp⟩ (body:=?_);rintro k ⟨hk,hno⟩;refine go ?_;refine aA rfl (λh1=>?_) (λh1=>?_)
 ·have hx:xs[k]? =some (xs[k]'(by omega)):=bP _;generalize xs[k]'(by omega)=x at hx;refine go ?_;refine I6 ae (v:=.slice a xs.length xs.length) (xss:=xs) k x hx (next:=λb o u=>?_);refine go ?_;refine ay (hp x (aZ hx) u) (next:=λ_ _=>?_);refine go ?_;refine kw rfl (λh2=>?_) (λh2=>?_)
  ·refine go ?_;exact ah (k:Int) (hv:=rfl) (hp:=⟨λ_=>List.any_eq_true.2 ⟨x,aZ hx,h2⟩,λ_=>by omega⟩)
  ·refine go ?_;refine aN (k+1) (by omega) ⟨by omega,?_⟩;rw[bZ hx,List.any_append,hno];simp[h2]
 refine go ?_;have:k=xs.length:=by omega
 subst this;rw[bU]at hno;exact ah (-1) (hv:=rfl) (hp:=⟨λh=>by omega,λh=>by rw[hno]at h;cases h⟩)
theorem agA{fn:Fn}{first cap:List Value}{F1:List aO}{p:List Int->Bool}{va:Value}{xs:List (List Int)}(hl:xs.length<9223372036854775808)(hp:∀x∈xs,OC Tryz.prog fn first cap F1 p x):
 bA Tryz.prog (.func 56) [va,.func fn ⟨first⟩ ⟨cap⟩] [] [ap (ak ae) va xs] F1 (λ_:Unit=>.bool (xs.any p)) (λ_=>[ap (ak ae) va xs]) (λ_=>[]) (λ_=>True):=by
 refine aM _ (aP 56) λB w0=>?_;refine go ?_;refine ay (agz hl hp) (next:=λr hr=>?_);refine go ?_;refine ah () (hv:=?_) (hp:=trivial);have:xs.any p=decide (0<=r):=by rw[zP,lM];exact hr.symm
 rw[this];rfl
theorem agB{b:Nat}{vx:Value}{zs:List Int}(hl:zs.length<9223372036854775808)(ys:List Int):OC Tryz.prog (.func 342) [] [ptr' b] [gY b 0 [vx],ai ae vx zs] (λy=>decide (zs=y)) ys:=by
 intro v;rw[dY];refine aM _ (aP 342) λB w0=>?_;refine go ?_;refine ay (Bf (xs:=zs) (ys:=ys) hl) (next:=λ_ _=>?_);refine go ?_;exact ah () (hv:=rfl) (hp:=trivial)
def zy(g:bz)(r:mV):Prop:=(fE g/\CZ g r.lists)/\(r.lists.map bW).Nodup
theorem agC{d:bF}{vh vs vr vc vu gh gc:Value}{g:bz}(hS:ng d)(hG:qP g):
 bA Tryz.prog (.func 302) [.agg ⟨gB d vh vs vr vc vu⟩,.agg ⟨iO g gh gc⟩] [] [] (ai eY vr d.regions::jq g gh gc) (λe:Int=>.int .i64 e) (λ_=>[]) (λ_=>[]) (λe=>e=0↔∀r∈d.regions,zy g r):=by
 have hrl:=hS.regs;refine aM _ (aP 302) λB w0=>?_;refine aS (E:=eY) (v:=vr) (xs:=d.regions) (by simp) λar cr er=>?_;subst er;refine go ?_;intro b2 b3;refine bn (eX (b:=b2)) (h:=?_);refine bn (eX (b:=b3)) (h:=?_);refine go ?_;refine aU (λk:Nat=>d.regions.length - k) (λk=>[(16,.int .i64 (k:Int))]) (λ_=>[]) (λ_=>[]) (λk=>k<=d.regions.length/\∀r∈d.regions.take k,zy g r) 0 ⟨bR _,by simp⟩ (body:=?_);rintro k ⟨hk,hall⟩;refine go ?_;refine aA rfl (λh1=>?_) (λh1=>?_)
 ·refine go ?_;refine bi eY (xs:=d.regions) (next:=λ_ _ r (vl:Value) hr=>?_);have hrm:=aZ hr;obtain⟨hl1,hl2⟩:=hS.rZ r hrm;refine go ?_;intro b6;refine go ?_;refine ay (VV (g:=g) (vh:=gh) (vc:=gc) (vr:=vl) (rs:=r.lists) hG hl1 hl2) (next:=λy hy=>?_);obtain⟨v7,e⟩:=y;dsimp only at hy⊢;refine go ?_;refine aA rfl (λh2=>?_) (λh2=>?_)
  ·refine go ?_;exact ah e (hv:=rfl) (hp:=⟨(λh=>absurd h h2),λh=>absurd (hy.2 (h r hrm).1) h2⟩)
  have he:e=0:=ic.1 h2;obtain⟨hg,hro⟩:=hy.1 he;have hgl:=hg.len;have hrl2:=hro.len;refine aS (E:=ak ae) (v:=vl) (xs:=r.lists) (by simp) λal cl el=>?_;subst el;refine go ?_;refine gH (ak ae) ?_;refine aU (λy:Nat×Value=>r.lists.length - y.1) (λy=>[(33,.int .i64 (y.1:Int)),(9,y.2)]) (λy=>[ap (ak ae) y.2 ((r.lists.take y.1).map bW)]) (λ_=>[]) (λy=>y.1<=r.lists.length/\((r.lists.take y.1).map bW).Nodup) (0,.slice none 0 0) ⟨bR _,by simp⟩ (hk:=by repeat (first|exact aI.nil|(apply aI.cons;(focus (repeat (first|exact az.here|apply az.there)))))) (body:=?_);rintro⟨j,v9⟩ ⟨hj,hnd⟩;dsimp only at hj hnd⊢;have hjl:((r.lists.take j).map bW).length=j:=by rw[bY,gT];omega
  refine go ?_;refine aA rfl (λh3=>?_) (λh3=>?_)
  ·refine go ?_;refine bi (ak ae) (xs:=r.lists) (next:=λ_ _ ps (vp:Value) hps=>?_);have hpm:=aZ hps;have hP:=hro.all ps hpm;have hpl:ps.length<=256:=by have:=Jl hP.mem hP.nd;omega
   refine go ?_;refine ay (agx (v:=vp) (xs:=ps)) (next:=λbv _=>?_);refine go ?_;refine ay (VT (agy (b:=bv) (v:=vp) (xs:=ps) (by omega)) (λys h=>by rw[h];omega)) (next:=λy hy2=>?_);obtain⟨v39,zs⟩:=y;dsimp only[List.cons_append,List.nil_append]at hy2⊢;subst hy2;have hzl:=AV zs;refine bn (gz (E:=ae) (v:=v39) (xs:=bW zs)) (h:=?_);refine aS (E:=ae) (v:=v39) (xs:=bW zs) (by simp) λa39 OD e39=>?_;subst e39;refine go ?_;intro b12;refine bn (eX (b:=b12)) (h:=?_);refine go ?_;refine ay (agA (fn:=.func 342) (first:=[]) (cap:=[ptr' b12]) (F1:=[gY b12 0 [.slice a39 (bW zs).length OD],ai ae (.slice a39 (bW zs).length OD) (bW zs)]) (p:=λy=>decide (bW zs=y)) (va:=v9) (xs:=(r.lists.take j).map bW) (by omega) (λx _=>agB (by omega) x)) (next:=λ_ _=>?_);have htk:(r.lists.take (j+1)).map bW=(r.lists.take j).map bW++[bW zs]:=by rw[bZ hps,fP,sQ]
   refine go ?_;refine kw rfl (λh4=>?_) (λh4=>?_)
   ·refine go ?_;refine ah 161 (hv:=rfl) (hp:=⟨(λh=>by cases h),λh=>?_⟩)
    exfalso
    have h5:=(h r hrm).2;have h6:((r.lists.take (j+1)).map bW).Nodup:=h5.sublist ((PX _ _).map _);rw[htk,iT]at h6;obtain⟨x,hx,hx2⟩:=List.any_eq_true.1 h4;exact h6.2.2 x hx _ (bM.2 rfl) (iI hx2).symm
   ·refine go ?_;intro b45;refine go ?_;refine fB (xs:=(r.lists.take j).map bW) (ak ae) (bW zs) (.slice a39 (bW zs).length OD) (by omega) (next:=λad=>?_);rw[<- htk];refine go ?_;refine aN (j+1,.slice ad (((r.lists.take j).map bW).length+1) (((r.lists.take j).map bW).length+1)) (by show r.lists.length - (j+1)<r.lists.length - j;omega) ⟨by show j+1<=_;omega,?_⟩;show((r.lists.take (j+1)).map bW).Nodup;rw[htk,iT];refine⟨hnd,by simp,λa ha b hb e=>?_⟩;rw[bM.1 hb]at e;subst e;rw[List.any_eq_false]at h4;exact h4 _ ha (dK rfl)
  have iR:j=r.lists.length:=by omega
  subst iR;rw[bU]at hnd;refine go ?_;refine aN (k+1) (by show d.regions.length - (k+1)<d.regions.length - k;omega) ⟨by omega,?_⟩;rw[bZ hr];intro x hx;rcases dX.1 hx with hx|hx
  ·exact hall x hx
  ·rw[bM.1 hx];exact⟨⟨hg,hro⟩,hnd⟩
 have hke:k=d.regions.length:=by omega
 subst hke;rw[bU]at hall;refine go ?_;exact ah 0 (hv:=rfl) (hp:=⟨λ_=>hall,λ_=>rfl⟩)
structure VY(d:bF):Prop where
 s0:0<d.symbols.length
 s1:d.symbols.length<=16
 r:d.regions.length<=4
 c:d.aJ.length<=4
 u:d.rules.length<=16
structure FO(d:bF):Prop where
 lim:VY d
 rs:CU d
 same:Kd.bE d=d
 OE:1<=d.version/\d.version<=255
 Dk:oH d.shape d.w d.h d.holes
 Dl:∀r∈d.regions,zy (aT d) r
 form:JP d
 read:jk d.rules=[]
structure vC(d:bF):Prop where
 s:ng d
 w:kD d.w
 h:kD d.h
 holes:d.holes.length<4611686018427387904
theorem FP{d:bF}(hm:oH d.shape d.w d.h d.holes):qP (aT d):=by
 have hb:=xQ hm.wi hm.he;have h1:=hm.wi;have h2:=hm.he;have h3:=hm.len;have h4:=CW (d.w*d.h).toNat d.holes;refine⟨?_,?_,?_,?_⟩
 ·show kD d.w;unfold kD;omega
 ·show kD d.h;unfold kD;omega
 ·show d.holes.length<_;omega
 ·show(mX d.w d.h d.holes).length<_;unfold mX;omega
abbrev tF(b:Nat)(d:bF)(vh vs vr vc vu:Value):List aO:=gY b 0 (gB d vh vs vr vc vu)::lG d vh vs vr vc vu
theorem agD{b:Nat}{d:bF}{vh vs vr vc vu:Value}(hS:ng d):bA Tryz.prog (.func 296) [] [ptr' b] [] (tF b d vh vs vr vc vu) (λe:Int=>.int .i64 e) (λ_=>[]) (λ_=>[]) (λe=>e=0↔VY d):=by
 have hsl:=hS.eH;have hrl:=hS.regs;have hcl:=hS.jg;have yc:=hS.kX;refine aM _ (aP 296) λB w0=>?_;refine go ?_;refine gG (λh1=>?_) (λh1=>?_)
 ·refine go ?_;refine ay (qQ (b:=false) (e:=2)) (next:=λ_ _=>?_);refine go ?_;refine ah _ (hv:=rfl) (hp:=⟨λh=>?_,λh=>?_⟩)
  ·cases h
  ·exact absurd h.s0 (by omega)
 refine go ?_;refine gG (λh2=>?_) (λh2=>?_)
 ·refine go ?_;refine ay (qQ (b:=false) (e:=2)) (next:=λ_ _=>?_);refine go ?_;refine ah _ (hv:=rfl) (hp:=⟨λh=>?_,λh=>?_⟩)
  ·cases h
  ·exact absurd h.s1 (by omega)
 refine go ?_;refine gG (λh3=>?_) (λh3=>?_)
 ·refine go ?_;refine ay (qQ (b:=false) (e:=2)) (next:=λ_ _=>?_);refine go ?_;refine ah _ (hv:=rfl) (hp:=⟨λh=>?_,λh=>?_⟩)
  ·cases h
  ·exact absurd h.r (by omega)
 refine go ?_;refine gG (λh4=>?_) (λh4=>?_)
 ·refine go ?_;refine ay (qQ (b:=false) (e:=2)) (next:=λ_ _=>?_);refine go ?_;refine ah _ (hv:=rfl) (hp:=⟨λh=>?_,λh=>?_⟩)
  ·cases h
  ·exact absurd h.c (by omega)
 refine go ?_;by_cases h5:d.rules.length<=16
 ·rw[show decide ((d.rules.length:Int)<=16)=true from dK (by omega)];refine ay (qQ (b:=true) (e:=2)) (next:=λ_ _=>?_);refine go ?_;refine ah _ (hv:=rfl) (hp:=⟨λh=>?_,λh=>?_⟩)
  ·exact⟨by omega,by omega,by omega,by omega,h5⟩
  ·rfl
 ·rw[show decide ((d.rules.length:Int)<=16)=false from aR (by omega)];refine ay (qQ (b:=false) (e:=2)) (next:=λ_ _=>?_);refine go ?_;refine ah _ (hv:=rfl) (hp:=⟨λh=>?_,λh=>?_⟩)
  ·cases h
  ·exact absurd h.u h5
theorem ng.bE{d:bF}(hS:ng d):ng (Kd.bE d):=by
 refine⟨hS.eH,hS.regs,?_,?_,?_,hS.holes,hS.rZ⟩
 ·show(d.aJ.map _).length<=_;rw[bY];exact hS.jg
 ·show(d.rules.map _).length<=_;rw[bY];exact hS.kX
 ·intro r hr;obtain⟨q,hq,rfl⟩:=eT.1 (show r∈d.rules.map _ from hr);exact hS.rY q hq
theorem agE{b:Nat}{d:bF}{vh vs vr vc vu:Value}(hS:ng d):bA Tryz.prog (.func 298) [] [ptr' b] [] (tF b d vh vs vr vc vu) (λe:Int=>.int .i64 e) (λ_=>[]) (λ_=>[]) (λe=>e=0↔CU d/\Kd.bE d=d):=by
 refine aM _ (aP 298) λB w0=>?_;refine go ?_;refine ay (Vy (d:=d) hS) (next:=λy hy=>?_);obtain⟨ok,e,v1,v2⟩:=y;dsimp only[rX,oL,Bg]at hy⊢;cases ok with
 |false=>
  obtain⟨he,hno⟩:=hy.2 rfl;dsimp only[cond];refine go ?_;intro b2;refine go ?_;refine aA rfl (λh1=>?_) (λh1=>?_)
  ·refine go ?_;exact ah e (hv:=rfl) (hp:=⟨λh=>absurd h he,λh=>absurd h.1 hno⟩)
  ·exact absurd (ic.1 h1) he
 |true=>
  obtain⟨he,hres⟩:=hy.1 rfl;subst he;dsimp only[cond,List.cons_append,List.nil_append];refine go ?_;intro b2;refine go ?_;have hsy:dD Tryz.prog 142 [.agg ⟨gB (Kd.bE d) vh vs vr v1 v2⟩,.agg ⟨gB d vh vs vr vc vu⟩] [ai ae vh d.holes,ai fF vs d.symbols,ai eY vr d.regions,ai bI v1 (Kd.bE d).aJ,ai aY v2 (Kd.bE d).rules,ai bI vc d.aJ,ai aY vu d.rules] (.bool (decide (Kd.bE d=d))):=
   (VD (x:=Kd.bE d) (y:=d) (h1:=vh) (s1:=vs) (r1:=vr) (c1:=v1) (u1:=v2) (h2:=vh) (s2:=vs) (r2:=vr) (c2:=vc) (u2:=vu) hS.bE).facts (λf hf=>by
     simp only[lG,fV,dY,dx,Kj,or_false]at hf⊢;rcases hf with rfl|rfl|rfl|rfl|rfl|rfl|rfl|rfl|rfl|rfl
     ·exact .inl rfl
     ·exact .inr (.inl rfl)
     ·exact .inr (.inr (.inl rfl))
     ·simp
     ·simp
     ·exact .inl rfl
     ·exact .inr (.inl rfl)
     ·exact .inr (.inr (.inl rfl))
     ·simp
     ·simp)
  refine ay hsy (next:=λ_ _=>?_);refine go ?_;by_cases hr:Kd.bE d=d
  ·rw[dK hr];refine ay (qQ (b:=true) (e:=170)) (next:=λ_ _=>?_);refine go ?_;exact ah 0 (hv:=rfl) (hp:=⟨λ_=>⟨hres,hr⟩,λ_=>rfl⟩)
  ·rw[aR hr];refine ay (qQ (b:=false) (e:=170)) (next:=λ_ _=>?_);refine go ?_;exact ah 170 (hv:=rfl) (hp:=⟨(λh=>by cases h),λh=>absurd h.2 hr⟩)
theorem agF{b:Nat}{d:bF}{vh vs vr vc vu:Value}:bA Tryz.prog (.func 299) [] [ptr' b] [] (tF b d vh vs vr vc vu) (λe:Int=>.int .i64 e) (λ_=>[]) (λ_=>[]) (λe=>e=0↔(1<=d.version/\d.version<=255)):=by
 refine aM _ (aP 299) λB w0=>?_;refine go ?_;refine gG (λh1=>?_) (λh1=>?_)
 ·refine go ?_;refine ay (qQ (b:=false) (e:=170)) (next:=λ_ _=>?_);refine go ?_;exact ah 170 (hv:=rfl) (hp:=⟨(λh=>by cases h),λh=>by exfalso;omega⟩)
 refine go ?_;by_cases h2:d.version<=255
 ·rw[dK h2];refine ay (qQ (b:=true) (e:=170)) (next:=λ_ _=>?_);refine go ?_;exact ah 0 (hv:=rfl) (hp:=⟨λ_=>⟨by omega,h2⟩,λ_=>rfl⟩)
 ·rw[aR h2];refine ay (qQ (b:=false) (e:=170)) (next:=λ_ _=>?_);refine go ?_;exact ah 170 (hv:=rfl) (hp:=⟨(λh=>by cases h),λh=>absurd h.2 h2⟩)
theorem agG{b bg:Nat}{d:bF}{vh vs vr vc vu:Value}(hT:vC d):bA Tryz.prog (.func 300) [] [ptr' b,ptr' bg] [pt bg (.cells FH)] (tF b d vh vs vr vc vu) (λy:Ol=>.int .i64 (cond y.ok 0 130))
 (λy=>[pt bg (.cells (cond y.ok (iO (wH d.shape d.w d.h d.holes) y.vh y.vc) FH))]) (pM d.shape d.w d.h d.holes) (λy=>y.ok=true↔oH d.shape d.w d.h d.holes):=by
 refine aM _ (aP 300) λB w0=>?_;refine go ?_;refine ay (Om (s:=d.shape) (w:=d.w) (h:=d.h) (holes:=d.holes) (vh:=vh) hT.w hT.h hT.holes) (next:=λy hy=>?_);obtain⟨ok,v1,v2⟩:=y;cases ok with
 |false=>
  dsimp only[mkV,pM,cond,List.nil_append]at hy⊢;refine go ?_;exact ah ⟨false,v1,v2⟩ (hv:=rfl) (hp:=hy)
 |true=>
  dsimp only[mkV,pM,cond,jq,wH,List.cons_append,List.nil_append]at hy⊢;refine go ?_;exact ah ⟨true,v1,v2⟩ (hv:=rfl) (hp:=hy) (hF:=by show Sub [ai ae v1 d.holes,ai ae v2 (mX d.w d.h d.holes)] _;exact .cons (by simp) (.cons (by simp) .nil))
theorem agH{b bg:Nat}{d:bF}{vh vs vr vc vu gh gc:Value}{g:bz}(hS:ng d)(hG:qP g):bA Tryz.prog (.func 301) [] [ptr' b,ptr' bg] [] (gY bg 0 (iO g gh gc)::ai ae gh g.holes::ai ae gc g.cells::tF b d vh vs vr vc vu) (λe:Int=>.int .i64 e) (λ_=>[]) (λ_=>[]) (λe=>e=0↔∀r∈d.regions,zy g r):=by
 refine aM _ (aP 301) λB w0=>?_;refine go ?_;refine ay (agC (d:=d) (g:=g) (gh:=gh) (gc:=gc) hS hG) (next:=λe he=>?_);refine go ?_;exact ah e (hv:=rfl) (hp:=he)
theorem agI{b:Nat}{d:bF}{vh vs vr vc vu:Value}(hS:ng d):bA Tryz.prog (.func 303) [] [ptr' b] [] (tF b d vh vs vr vc vu) (λe:Int=>.int .i64 e) (λ_=>[]) (λ_=>[]) (λe=>e=0↔JP d):=by
 refine aM _ (aP 303) λB w0=>?_;refine go ?_;refine ay (agw (d:=d) hS) (next:=λc hc=>?_);refine go ?_;refine ay (qQ (b:=c) (e:=170)) (next:=λ_ _=>?_);refine go ?_;cases c with
 |false=>exact ah 170 (hv:=rfl) (hp:=⟨(λh=>by cases h),λh=>absurd (hc.2 h) (by simp)⟩)
 |true=>exact ah 0 (hv:=rfl) (hp:=⟨λ_=>hc.1 rfl,λ_=>rfl⟩)
theorem agJ{b:Nat}{d:bF}{vh vs vr vc vu:Value}(hS:ng d):bA Tryz.prog (.func 305) [] [ptr' b] [] (tF b d vh vs vr vc vu) (λe:Int=>.int .i64 e) (λ_=>[]) (λ_=>[]) (λe=>e=0↔jk d.rules=[]):=by
 refine aM _ (aP 305) λB w0=>?_;refine go ?_;refine ay (agc (d:=d) hS.kX) (next:=λv _=>?_);refine go ?_;by_cases h:jk d.rules=[]
 ·rw[show decide (((jk d.rules).length:Int)=0)=true from dK (by rw[h];rfl)];refine ay (qQ (b:=true) (e:=171)) (next:=λ_ _=>?_);refine go ?_;exact ah 0 (hv:=rfl) (hp:=⟨λ_=>h,λ_=>rfl⟩)
 ·rw[show decide (((jk d.rules).length:Int)=0)=false from aR (λe=>h (jy.1 (by omega)))];refine ay (qQ (b:=false) (e:=171)) (next:=λ_ _=>?_);refine go ?_;exact ah 171 (hv:=rfl) (hp:=⟨(λh=>by cases h),λe=>absurd e h⟩)
theorem agK{d:bF}{vh vs vr vc vu:Value}(hT:vC d):bA Tryz.prog (.func 207) [.agg ⟨gB d vh vs vr vc vu⟩] [] [] (lG d vh vs vr vc vu) (λe:Int=>.int .i64 e) (λ_=>[]) (λ_=>[]) (λe=>e=0↔FO d):=by
 have hS:=hT.s;refine aM _ (aP 207) λB w0=>?_;refine go ?_;intro b1 b3 b14;refine bn (eX (b:=b1)) (h:=?_);refine go ?_;refine mR ?_;refine go ?_;refine ay (agD (b:=b1) (d:=d) hS) (next:=λe he=>?_);refine go ?_;refine aA rfl (λhne=>?_) (λhz=>?_)
 ·refine go ?_;exact ah e (hv:=rfl) (hp:=⟨λh=>absurd h hne,λh=>absurd (he.2 h.lim) hne⟩)
 have k1:=he.1 (ic.1 hz);clear hz he;refine go ?_;refine mR ?_;refine go ?_;refine ay (agE (b:=b1) (d:=d) hS) (next:=λe he=>?_);refine go ?_;refine aA rfl (λhne=>?_) (λhz=>?_)
 ·refine go ?_;exact ah e (hv:=rfl) (hp:=⟨λh=>absurd h hne,λh=>absurd (he.2 ⟨h.rs,h.same⟩) hne⟩)
 have k2:=he.1 (ic.1 hz);clear hz he;refine go ?_;refine mR ?_;refine go ?_;refine ay (agF (b:=b1) (d:=d)) (next:=λe he=>?_);refine go ?_;refine aA rfl (λhne=>?_) (λhz=>?_)
 ·refine go ?_;exact ah e (hv:=rfl) (hp:=⟨λh=>absurd h hne,λh=>absurd (he.2 h.OE) hne⟩)
 have k3:=he.1 (ic.1 hz);clear hz he;refine go ?_;refine mR ?_;refine go ?_;refine ay (agG (b:=b1) (bg:=b3) (d:=d) hT) (next:=λy hy=>?_);obtain⟨ok,gh,gc⟩:=y;cases ok with
 |false=>
  dsimp only[cond,pM,List.cons_append,List.nil_append]at hy⊢;refine go ?_;exact ah 130 (hv:=rfl) (hp:=⟨(λh=>by cases h),λh=>absurd (hy.2 h.Dk) (by simp)⟩)
 |true=>
 have hmk:=hy.1 rfl;have hG:=FP hmk;dsimp only[cond,pM];rw[show wH d.shape d.w d.h d.holes=aT d from rfl];dsimp only[jq,List.cons_append,List.nil_append];refine bn (eX (b:=b3)) (h:=?_);refine go ?_;refine mR ?_;refine go ?_;refine ay (agH (b:=b1) (bg:=b3) (d:=d) (g:=aT d) (gh:=gh) (gc:=gc) hS hG) (next:=λe he=>?_);refine go ?_;refine aA rfl (λhne=>?_) (λhz=>?_)
 ·refine go ?_;exact ah e (hv:=rfl) (hp:=⟨λh=>absurd h hne,λh=>absurd (he.2 h.Dl) hne⟩)
 have k5:=he.1 (ic.1 hz);clear hz he;refine go ?_;refine mR ?_;refine go ?_;refine ay (agI (b:=b1) (d:=d) hS) (next:=λe he=>?_);refine go ?_;refine aA rfl (λhne=>?_) (λhz=>?_)
 ·refine go ?_;exact ah e (hv:=rfl) (hp:=⟨λh=>absurd h hne,λh=>absurd (he.2 h.form) hne⟩)
 have k6:=he.1 (ic.1 hz);clear hz he;refine go ?_;refine mR ?_;refine go ?_;refine ay (agJ (b:=b1) (d:=d) hS) (next:=λe he=>?_);refine go ?_;refine aA rfl (λhne=>?_) (λhz=>?_)
 ·refine go ?_;exact ah e (hv:=rfl) (hp:=⟨λh=>absurd h hne,λh=>absurd (he.2 h.read) hne⟩)
 have k7:=he.1 (ic.1 hz);clear hz he;refine go ?_;refine mR ?_;refine go ?_;exact ah 0 (hv:=rfl) (hp:=⟨λ_=>⟨k1,k2.1,k2.2,k3,hmk,k5,k6,k7⟩,λ_=>rfl⟩)
