/- Part. -/
import Derived.Test.YtgimfpcgbmpkhaaGreatLibFT
set_option linter.all false
set_option maxRecDepth 10000
set_option maxHeartbeats 4000000
namespace Go.Proofs.YtgimfpcgbmpkhaaGreat
open Tryz (prog)
open Go.Ideal Kd
structure Vj(d:dR):Prop where
 eH:∀s∈d.symbols,0<=s.value/\s.value<=99
 oP:∀r∈d.rules,Ia (iU r.kind) d.bT r
 ny:∀(i:Nat) (c:jA),d.bT[i]? =some c->(d.rules.map (·.aN)).count (i:Int)=1/\u7 c
variable{d:dR}{vh vs vr vc vu:ah}
def aou(hS:uX d):
 fC prog 294 [.agg ⟨oO d vh vs vr vc vu⟩] [ay jO vs d.symbols,ay eP vc d.bT,ay di vu d.rules] (λb:Bool=>.bool b) (λb=>b=true↔Vj d):=by
 have hsl:=hS.eH;have hcl:=hS.ny;have pO:=hS.oP;refine gB 294 λB w0=>?_;refine gF jO vs d.symbols λjg cs1 es=>?_;subst es;refine gF eP vc d.bT λac cc ec=>?_;subst ec;refine gF di vu d.rules λau cu eu=>?_;subst eu;refine go ?_;intro b1;refine gP b1 ?_;refine gN d.symbols.length 13 (λk=>k<=d.symbols.length/\∀s∈d.symbols.take k,0<=s.value/\s.value<=99) ⟨bI _,s7⟩ ?_;rintro k ⟨hk,hall⟩;refine aK ?_ ?_<;>intro h1
 .refine gX jO (xs:=d.symbols) λ_ _ s (_:Unit) hs=>?_;have hsm:=aV hs;refine go ?_;intro b4;refine gH ?_ ?_<;>intro h2
  .refine aK ?_ ?_<;>intro h3
   .exact nw
   .refine go ?_;refine aW (k+1) (by show d.symbols.length - (k+1)<d.symbols.length - k;omega) ⟨s6,?_⟩;rw[fq hs];exact pn
  .exact nw
 have hks:k=d.symbols.length:=s6
 subst hks;rw[dK]at hall;refine go ?_;refine yB jT (λbm=>?_);refine go ?_;refine dL (λk:Nat=>d.rules.length - k) (λk=>[(30,iV (k:Int))]) (λk=>[ic jT bm (yG ((d.rules.take k).map (·.aN)))]) (λ_=>[]) (λk=>k<=d.rules.length/\∀r∈d.rules.take k,Ia (iU r.kind) d.bT r) 0 ⟨bI _,s7⟩ (hk:=tc) (body:=?_);rintro k ⟨hk,Vk⟩;have hcn:∀c:Int,((d.rules.take k).map (·.aN)).count c<=4096:=λc=>by
  have:=alo c ((d.rules.take k).map (·.aN));rw[bi,gW]at this;omega
 refine aK ?_ ?_<;>intro h1
 .refine gX di (xs:=d.rules) λ_ _ r (vv:ah×ah) hr=>?_;have hrm:=aV hr;have hrn:=hS.Dh r hrm;refine go ?_;intro b7;refine gC (aot (d:=d) (r:=r) (v1:=vv.1) (v2:=vv.2) hcl hrn.1 hrn.2) λb hb=>?_;cases b with
  |false=>
   refine go ?_;exact gQ false ⟨(λh=>by cases h),λh=>absurd (hb.2 (h.oP r hrm)) s7⟩
  |true=>
   have hR:=hb.1 rfl;have hc1:=hcn r.aN;have hst:yG ((d.rules.take (k+1)).map (·.aN))=upd r.aN (iV ((((d.rules.take k).map (·.aN)).count r.aN:Nat)+1)) (yG ((d.rules.take k).map (·.aN))):=by
    rw[fq hr,bZ,kg,aaN]
   refine go ?_;refine EI (bH:=jT) (b:=bm) (aC:=yG ((d.rules.take k).map (·.aN))) Dj r.aN ?_;rw[aaO];refine go ?_;refine vX (bH:=jT) (b:=bm) (v:=iV ((((d.rules.take k).map (·.aN)).count r.aN:Nat)+1)) (aC:=yG ((d.rules.take k).map (·.aN))) Dj r.aN ?_;rw[<- hst];refine go ?_;refine aW (k+1) Bk ⟨s6,?_⟩;rw[fq hr];intro x hx;rcases fU.1 hx with hx|hx
   .exact Vk x hx
   .rw[bR.1 hx];exact hR
 have hkr:k=d.rules.length:=s6
 subst hkr;rw[dK]at Vk hcn⊢;refine gN d.bT.length 47 (λk=>k<=d.bT.length/\∀(i:Nat) (c:jA),i<k->d.bT[i]? =some c->(d.rules.map (·.aN)).count (i:Int)=1/\u7 c) ⟨bI _,λi c h=>by omega⟩ ?_;rintro k ⟨hk,acz⟩;refine aK ?_ ?_<;>intro h1
 .refine gX eP (xs:=d.bT) λ_ _ c (_:Unit) hc=>?_;have hck:=hcn (k:Int);refine go ?_;intro b9;refine go ?_;refine EI (bH:=jT) (b:=bm) (aC:=yG (d.rules.map (·.aN))) Dj (k:Int) ?_;rw[aaO];refine gH ?_ ?_<;>intro h2
  .refine gC (aoe (c:=c)) λ_ _=>?_;refine go ?_;refine qW rfl (λh3=>?_) (λh3=>?_)
   .refine go ?_;exact gQ false ⟨(λh=>by cases h),λh=>absurd (h.ny k c hc).2 h3⟩
   .refine go ?_;refine aW (k+1) (by show d.bT.length - (k+1)<d.bT.length - k;omega) ⟨s6,λi x hi hx=>?_⟩;by_cases hik:i=k
    .subst hik;rw[hc]at hx;cases hx;exact⟨s6,h3⟩
    .exact acz i x s6 hx
  .refine go ?_;exact gQ false ⟨(λh=>by cases h),λh=>by exfalso;have:=(h.ny k c hc).1;omega⟩
 have hkc:k=d.bT.length:=s6
 subst hkc;refine go ?_;exact gQ true ⟨λ_=>⟨hall,Vk,λi c hc=>acz i c (bz.1 hc).1 hc⟩,λ_=>rfl⟩
noncomputable def Vl:=qL prog 175
def acA:ng prog 175=some Vl:=s8
noncomputable def Vm:=qL prog 219
def acB:ng prog 219=some Vm:=s8
noncomputable def PU:=qL prog 161
def Vn:ng prog 161=some PU:=s8
variable{v:ah}{xs:ae Int}
def acC:aY prog (.func 175) [v] [] [] [ay aj v xs] (λb:Nat=>.func (.func 219) #[] #[ptr' b]) (λ_=>[]) (λb=>[aX b 0 [v]]) (λ_=>True):=by
 refine l7 Vl acA λB w0=>?_;refine gF aj v xs λa c e=>?_;subst e;refine go ?_;intro b1;refine go ?_;refine gP b1 ?_;exact gQ b1 trivial
variable{b:Nat}
def acD(hl:xs.length<2^63):CO prog (λx:Int=>[jT x]) (.func 219) [] [ptr' b] [aX b 0 [v],ay aj v xs] (λys=>ys=xs):=by
 intro S inv ok step s0 oM y1 y2 F' h0 hok hy;rw[bQ,bQ,bP];refine l7 Vm acB λB w0=>?_;refine go ?_;refine dL (λy:Nat×S=>xs.length - y.1) (λy=>[(7,iV (y.1:Int))]) (λy=>inv y.2) (λ_=>[]) (λy=>y.1<=xs.length/\ok (xs.take y.1) y.2/\cz step y.2 (xs.drop y.1)=cz step s0 xs) (0,s0) ⟨bI _,h0,rfl⟩ (body:=?_);rintro⟨k,s⟩ ⟨hk,hos,hrun⟩;dsimp only at hk hos hrun⊢;refine aK ?_ ?_<;>intro h1
 .refine go ?_;intro _ _ x hx;have hd:xs.drop k=x::xs.drop (k+1):=by
   exact pe
  have hX:xs.take k++x::xs.drop (k+1)=xs:=by rw[<- hd,l5]
  have fQ:=hy _ s _ _ hos hX;rw[hd,cz]at hrun;refine gC fQ λ_ _=>?_;cases hst:(step s x).2 with
  |true=>
   have hs1:step s x=((step s x).1,true):=Prod.ext rfl hst;rw[hs1]at hrun;refine go ?_;refine aW (k+1,(step s x).1) zd ⟨by show k+1<=_;omega,?_,hrun⟩;exact pT
  |false=>
   exact hU
 have hke:k=xs.length:=s6
 subst hke;rw[DY]at hrun;refine go ?_;exact gQ xs rfl (hk:=wq)
abbrev Dk(P:Program)(fn:Fn)(first cap:ae ah)(F:ae aI)(p:ae Int->Bool)(x:ae Int):Prop:=
 ∀v:ah,aY P fn (first++[v]) cap [] (ay aj v x::F) (λ_:Unit=>.bool (p x)) (λ_=>[]) (λ_=>[]) (λ_=>True)
variable{va:ah}{fn:Fn}{first cap:ae ah}{F1:ae aI}{p:ae Int->Bool}
def aov{xs:ae (ae Int)}(hl:xs.length<2^63)(hp:∀x∈xs,Dk prog fn first cap F1 p x):
 aY prog (.func 161) [va,.func fn ⟨first⟩ ⟨cap⟩] [] [ap (aA aj) va xs] F1 (λr:Int=>iV r) (λ_=>[ap (aA aj) va xs]) (λ_=>[]) (λr=>(0<=r↔xs.any p=true)):=by
 refine l7 PU Vn λB w0=>?_;refine EW (E:=aA aj) (v:=va) (xs:=xs) λa hv=>?_;subst hv;refine gN xs.length 8 (λk=>k<=xs.length/\(xs.take k).any p=false) ⟨s6,s7⟩ ?_;rintro k ⟨hk,hno⟩;refine aK ?_ ?_<;>intro h1
 .have hx:xs[k]? =some (xs[k]'(s6)):=bN _;generalize xs[k]'(s6)=x at hx;refine go ?_;refine Z4 aj (v:=.slice a xs.length xs.length) (xss:=xs) k x hx (next:=λb o u=>?_);refine gC (hp x (aV hx) u) λ_ _=>?_;refine go ?_;refine yA rfl (λh2=>?_) (λh2=>?_)
  .refine go ?_;exact gQ (k:Int) ⟨λ_=>List.any_eq_true.2 ⟨x,aV hx,h2⟩,λ_=>by omega⟩
  .refine go ?_;refine aW (k+1) s6 ⟨s6,?_⟩;rw[fq hx,List.any_append,hno];simp[h2]
 refine go ?_;have:k=xs.length:=s6
 subst this;rw[dK]at hno;exact gQ (-1) ⟨λh=>by omega,λh=>by rw[hno]at h;cases h⟩
def aow{xs:ae (ae Int)}(hl:xs.length<2^63)(hp:∀x∈xs,Dk prog fn first cap F1 p x):
 aY prog (.func 329) [va,.func fn ⟨first⟩ ⟨cap⟩] [] [ap (aA aj) va xs] F1 (λ_:Unit=>.bool (xs.any p)) (λ_=>[ap (aA aj) va xs]) (λ_=>[]) (λ_=>True):=by
 refine gB 329 λB w0=>?_;refine gC (aov hl hp) λr hr=>?_;refine aZ ?_;have:xs.any p=decide (0<=r):=by rw[wM,lV];exact hr.symm
 rw[this];rfl
def aox{vx:ah}{zs:ae Int}(hl:zs.length<2^63)(ys:ae Int):Dk prog (.func 330) [] [ptr' b] [aX b 0 [vx],ay aj vx zs] (λy=>decide (zs=y)) ys:=by
 intro v;rw[bP];refine gB 330 λB w0=>?_;refine gC (wC (xs:=zs) (ys:=ys) hl) λ_ _=>?_;exact dH
def K5(g:bY)(r:ru):Prop:=(ig g/\uT g r.lists)/\(r.lists.map bW).Nodup
variable{gh gc:ah}{g:bY}
def aoy(hS:uX d)(hG:zV g):
 fC prog 292 [.agg ⟨oO d vh vs vr vc vu⟩,.agg ⟨oG g gh gc⟩] (ay lJ vr d.regions::tY g gh gc) (λe:Int=>iV e) (λe=>e=0↔∀r∈d.regions,K5 g r):=by
 have hrl:=hS.regs;refine gB 292 λB w0=>?_;refine gF lJ vr d.regions λar cr er=>?_;subst er;refine go ?_;intro b2 b3;refine gP b2 ?_;refine gP b3 ?_;refine gN d.regions.length 16 (λk=>k<=d.regions.length/\∀r∈d.regions.take k,K5 g r) ⟨bI _,s7⟩ ?_;rintro k ⟨hk,hall⟩;refine aK ?_ ?_<;>intro h1
 .refine gX lJ (xs:=d.regions) λ_ _ r (vl:ah) hr=>?_;have hrm:=aV hr;obtain⟨hl1,hl2⟩:=hS.Di r hrm;refine go ?_;intro b6;refine gC (acw (g:=g) (rs:=r.lists) hG hl1 hl2) λy hy=>?_;obtain⟨v7,e⟩:=y;dsimp only at hy⊢;refine aK ?_ ?_<;>intro h2
  .refine go ?_;exact gQ e ⟨(λh=>absurd h h2),λh=>absurd (hy.2 (h r hrm).1) h2⟩
  have he:e=0:=j6.1 h2;obtain⟨hg,hro⟩:=hy.1 he;have hgl:=hg.len;have hrl2:=hro.len;refine gF (aA aj) vl r.lists λal cl el=>?_;subst el;refine go ?_;refine kv (aA aj) ?_;refine dL (λy:Nat×ah=>r.lists.length - y.1) (λy=>[(33,iV (y.1:Int)),(9,y.2)]) (λy=>[ap (aA aj) y.2 ((r.lists.take y.1).map bW)]) (λ_=>[]) (λy=>y.1<=r.lists.length/\((r.lists.take y.1).map bW).Nodup) (0,.slice none 0 0) ⟨bI _,s7⟩ (hk:=tc) (body:=?_);rintro⟨j,v9⟩ ⟨hj,hnd⟩;dsimp only at hj hnd⊢;have hjl:((r.lists.take j).map bW).length=j:=us
  refine aK ?_ ?_<;>intro h3
  .refine gX (aA aj) (xs:=r.lists) λ_ _ ps (vp:ah) hps=>?_;have hpm:=aV hps;have hP:=hro.all ps hpm;have hpl:ps.length<=256:=by have:=TW hP.mem hP.nd;omega
   refine gC (acC (v:=vp) (xs:=ps)) λbv _=>?_;refine gC (U8 (acD (b:=bv) (v:=vp) (xs:=ps) s6) (λys h=>by rw[h];omega)) λy hy2=>?_;obtain⟨v39,zs⟩:=y;dsimp only[List.cons_append,List.nil_append]at hy2⊢;subst hy2;have hzl:=AX zs;refine gZ (ja (E:=aj) (v:=v39) (xs:=bW zs)) ?_;refine gF aj v39 (bW zs) λa39 Vo e39=>?_;subst e39;refine go ?_;intro b12;refine gP b12 ?_;refine gC (aow (fn:=.func 330) (first:=[]) (cap:=[ptr' b12]) (F1:=[aX b12 0 [.slice a39 (bW zs).length Vo],ay aj (.slice a39 (bW zs).length Vo) (bW zs)]) (p:=λy=>decide (bW zs=y)) (va:=v9) (xs:=(r.lists.take j).map bW) s6 (λx _=>aox s6 x)) λ_ _=>?_;have htk:(r.lists.take (j+1)).map bW=(r.lists.take j).map bW++[bW zs]:=by rw[fq hps,bZ,kg]
   refine go ?_;refine yA rfl (λh4=>?_) (λh4=>?_)
   .refine go ?_;refine gQ 161 ⟨(λh=>by cases h),λh=>?_⟩
    exfalso
    have h5:=(h r hrm).2;have h6:((r.lists.take (j+1)).map bW).Nodup:=h5.sublist ((Mj _ _).map _);rw[htk,j5]at h6;obtain⟨x,hx,hx2⟩:=List.any_eq_true.1 h4;exact h6.2.2 x hx _ (bR.2 rfl) (jI hx2).symm
   .refine go ?_;intro b45;refine go ?_;refine jy (xs:=(r.lists.take j).map bW) (aA aj) (bW zs) (.slice a39 (bW zs).length Vo) s6 (next:=λad=>?_);rw[<- htk];refine go ?_;refine aW (j+1,.slice ad (((r.lists.take j).map bW).length+1) (((r.lists.take j).map bW).length+1)) (by show r.lists.length - (j+1)<r.lists.length - j;omega) ⟨by show j+1<=_;omega,?_⟩;show((r.lists.take (j+1)).map bW).Nodup;rw[htk,j5];refine⟨hnd,s7,λa ha b hb e=>?_⟩;rw[bR.1 hb]at e;subst e;rw[Ml]at h4;exact h4 _ ha (eB rfl)
  have iH:j=r.lists.length:=s6
  subst iH;rw[dK]at hnd;refine go ?_;refine aW (k+1) DE ⟨s6,?_⟩;rw[fq hr];intro x hx;rcases fU.1 hx with hx|hx
  .exact hall x hx
  .rw[bR.1 hx];exact⟨⟨hg,hro⟩,hnd⟩
 have hke:k=d.regions.length:=s6
 subst hke;rw[dK]at hall;refine go ?_;exact gQ 0 ⟨λ_=>hall,λ_=>rfl⟩
structure acE(d:dR):Prop where
 s0:0<d.symbols.length
 s1:d.symbols.length<=16
 r:d.regions.length<=4
 c:d.bT.length<=4
 u:d.rules.length<=16
structure PV(d:dR):Prop where
 lim:acE d
 rs:G8 d
 same:Kd.eO d=d
 ver:1<=d.version/\d.version<=255
 PW:wo d.shape d.w d.h d.holes
 wH:∀r∈d.regions,K5 (bO d) r
 form:Vj d
 read:nT d.rules=[]
structure Dl(d:dR):Prop where
 s:uX d
 w:mK d.w
 h:mK d.h
 holes:d.holes.length<4611686018427387904
def Vp(hm:wo d.shape d.w d.h d.holes):zV (bO d):=by
 have hb:=G9 hm.wi hm.he;have h1:=hm.wi;have h2:=hm.he;have h3:=hm.len;have h4:=OW (d.w*d.h).toNat d.holes;refine⟨?_,?_,?_,?_⟩
 .show mK d.w;unfold mK;omega
 .show mK d.h;unfold mK;omega
 .show d.holes.length<_;omega
 .show(wu d.w d.h d.holes).length<_;unfold wu;omega
abbrev tF(b:Nat)(d:dR)(vh vs vr vc vu:ah):ae aI:=aX b 0 (oO d vh vs vr vc vu)::uQ d vh vs vr vc vu
def aoA(hS:uX d):aY prog (.func 286) [] [ptr' b] [] (tF b d vh vs vr vc vu) (λe:Int=>iV e) (λ_=>[]) (λ_=>[]) (λe=>e=0↔acE d):=by
 have hsl:=hS.eH;have hrl:=hS.regs;have hcl:=hS.ny;have pO:=hS.oP;refine gB 286 λB w0=>?_;refine gH ?_ ?_<;>intro h1
 .refine gC (uZ (b:=false) (e:=2)) λ_ _=>?_;refine go ?_;refine gQ _ ⟨λh=>?_,λh=>?_⟩
  .cases h
  .exact absurd h.s0 s6
 refine gH ?_ ?_<;>intro h2
 .refine gC (uZ (b:=false) (e:=2)) λ_ _=>?_;refine go ?_;refine gQ _ ⟨λh=>?_,λh=>?_⟩
  .cases h
  .exact absurd h.s1 s6
 refine gH ?_ ?_<;>intro h3
 .refine gC (uZ (b:=false) (e:=2)) λ_ _=>?_;refine go ?_;refine gQ _ ⟨λh=>?_,λh=>?_⟩
  .cases h
  .exact absurd h.r s6
 refine gH ?_ ?_<;>intro h4
 .refine gC (uZ (b:=false) (e:=2)) λ_ _=>?_;refine go ?_;refine gQ _ ⟨λh=>?_,λh=>?_⟩
  .cases h
  .exact absurd h.c s6
 refine go ?_;by_cases h5:d.rules.length<=16
 .rw[show decide ((d.rules.length:Int)<=16)=true from eB s6];refine fH (uZ (b:=true) (e:=2)) (next:=λ_ _=>?_);refine go ?_;refine gQ _ ⟨λh=>?_,λh=>?_⟩
  .exact⟨s6,s6,s6,s6,h5⟩
  .rfl
 .rw[show decide ((d.rules.length:Int)<=16)=false from dA s6];refine fH (uZ (b:=false) (e:=2)) (next:=λ_ _=>?_);refine go ?_;refine gQ _ ⟨λh=>?_,λh=>?_⟩
  .cases h
  .exact absurd h.u h5
def uX.eO(hS:uX d):uX (Kd.eO d):=by
 refine⟨hS.eH,hS.regs,?_,?_,?_,hS.holes,hS.Di⟩
 .show(d.bT.map _).length<=_;rw[bi];exact hS.ny
 .show(d.rules.map _).length<=_;rw[bi];exact hS.oP
 .intro r hr;obtain⟨q,hq,rfl⟩:=cO.1 (show r∈d.rules.map _ from hr);exact hS.Dh q hq
def aoB(hS:uX d):aY prog (.func 288) [] [ptr' b] [] (tF b d vh vs vr vc vu) (λe:Int=>iV e) (λ_=>[]) (λ_=>[]) (λe=>e=0↔G8 d/\Kd.eO d=d):=by
 refine gB 288 λB w0=>?_;refine gC (ab1 (d:=d) hS) λy hy=>?_;obtain⟨ok,e,v1,v2⟩:=y;dsimp only[Dg,xJ,HZ]at hy⊢;cases ok with
 |false=>
  obtain⟨he,hno⟩:=hy.2 rfl;dsimp only[cond];refine go ?_;intro b2;refine aK ?_ ?_<;>intro h1
  .refine go ?_;exact gQ e ⟨λh=>absurd h he,λh=>absurd h.1 hno⟩
  .exact absurd (j6.1 h1) he
 |true=>
  obtain⟨he,hres⟩:=hy.1 rfl;subst he;dsimp only[cond,List.cons_append,List.nil_append];refine go ?_;intro b2;refine go ?_;have hsy:dO prog 196 [.agg ⟨oO (Kd.eO d) vh vs vr v1 v2⟩,.agg ⟨oO d vh vs vr vc vu⟩] [ay aj vh d.holes,ay jO vs d.symbols,ay lJ vr d.regions,ay eP v1 (Kd.eO d).bT,ay di v2 (Kd.eO d).rules,ay eP vc d.bT,ay di vu d.rules] (.bool (decide (Kd.eO d=d))):=
   (ab8 (x:=Kd.eO d) (y:=d) (h1:=vh) (s1:=vs) (r1:=vr) (c1:=v1) (u1:=v2) (h2:=vh) (s2:=vs) (r2:=vr) (c2:=vc) (u2:=vu) hS.eO).facts (λf hf=>by
     simp only[uQ,bQ,bP,dm,IR,or_false]at hf⊢;rcases hf with rfl|rfl|rfl|rfl|rfl|rfl|rfl|rfl|rfl|rfl
     .exact .inl rfl
     .exact .inr (.inl rfl)
     .exact .inr (.inr (.inl rfl))
     .simp
     .simp
     .exact .inl rfl
     .exact .inr (.inl rfl)
     .exact .inr (.inr (.inl rfl))
     .simp
     .simp)
  refine fH hsy (next:=λ_ _=>?_);refine go ?_;by_cases hr:Kd.eO d=d
  .rw[eB hr];refine fH (uZ (b:=true) (e:=170)) (next:=λ_ _=>?_);refine go ?_;exact gQ 0 ⟨λ_=>⟨hres,hr⟩,λ_=>rfl⟩
  .rw[dA hr];refine fH (uZ (b:=false) (e:=170)) (next:=λ_ _=>?_);refine go ?_;exact gQ 170 ⟨(λh=>by cases h),λh=>absurd h.2 hr⟩
def aoC:aY prog (.func 289) [] [ptr' b] [] (tF b d vh vs vr vc vu) (λe:Int=>iV e) (λ_=>[]) (λ_=>[]) (λe=>e=0↔(1<=d.version/\d.version<=255)):=by
 refine gB 289 λB w0=>?_;refine gH ?_ ?_<;>intro h1
 .refine gC (uZ (b:=false) (e:=170)) λ_ _=>?_;refine go ?_;exact gQ 170 ⟨(λh=>by cases h),λh=>by exfalso;omega⟩
 refine go ?_;by_cases h2:d.version<=255
 .rw[eB h2];refine fH (uZ (b:=true) (e:=170)) (next:=λ_ _=>?_);refine go ?_;exact gQ 0 ⟨λ_=>⟨s6,h2⟩,λ_=>rfl⟩
 .rw[dA h2];refine fH (uZ (b:=false) (e:=170)) (next:=λ_ _=>?_);refine go ?_;exact gQ 170 ⟨(λh=>by cases h),λh=>absurd h.2 h2⟩
variable{bg:Nat}
def aoD(hT:Dl d):aY prog (.func 290) [] [ptr' b,ptr' bg] [pt bg (.cells KU)] (tF b d vh vs vr vc vu) (λy:UX=>iV (cond y.ok 0 130))
 (λy=>[pt bg (.cells (cond y.ok (oG (EU d.shape d.w d.h d.holes) y.vh y.vc) KU))]) (zU d.shape d.w d.h d.holes) (λy=>y.ok=true↔wo d.shape d.w d.h d.holes):=by
 refine gB 290 λB w0=>?_;refine gC (UY (s:=d.shape) (w:=d.w) (h:=d.h) (holes:=d.holes) (vh:=vh) hT.w hT.h hT.holes) λy hy=>?_;obtain⟨ok,v1,v2⟩:=y;cases ok with
 |false=>
  dsimp only[mkV,zU,cond,List.nil_append]at hy⊢;refine go ?_;exact gQ ⟨false,v1,v2⟩ hy
 |true=>
  dsimp only[mkV,zU,cond,tY,EU,List.cons_append,List.nil_append]at hy⊢;refine go ?_;exact gQ ⟨true,v1,v2⟩ hy (hF:=by show Sub [ay aj v1 d.holes,ay aj v2 (wu d.w d.h d.holes)] _;exact .cons s7 (.cons s7 .nil))
def aoE(hS:uX d)(hG:zV g):aY prog (.func 291) [] [ptr' b,ptr' bg] [] (aX bg 0 (oG g gh gc)::ay aj gh g.holes::ay aj gc g.cells::tF b d vh vs vr vc vu) (λe:Int=>iV e) (λ_=>[]) (λ_=>[]) (λe=>e=0↔∀r∈d.regions,K5 g r):=by
 refine gB 291 λB w0=>?_;refine gC (aoy (d:=d) (g:=g) (gh:=gh) (gc:=gc) hS hG) λe he=>?_;refine go ?_;exact gQ e he
def aoF(hS:uX d):aY prog (.func 293) [] [ptr' b] [] (tF b d vh vs vr vc vu) (λe:Int=>iV e) (λ_=>[]) (λ_=>[]) (λe=>e=0↔Vj d):=by
 refine gB 293 λB w0=>?_;refine gC (aou (d:=d) hS) λc hc=>?_;refine gC (uZ (b:=c) (e:=170)) λ_ _=>?_;refine go ?_;cases c with
 |false=>exact gQ 170 ⟨(λh=>by cases h),λh=>absurd (hc.2 h) s7⟩
 |true=>exact gQ 0 ⟨λ_=>hc.1 rfl,λ_=>rfl⟩
def aoG(hS:uX d):aY prog (.func 295) [] [ptr' b] [] (tF b d vh vs vr vc vu) (λe:Int=>iV e) (λ_=>[]) (λ_=>[]) (λe=>e=0↔nT d.rules=[]):=by
 refine gB 295 λB w0=>?_;refine gC (aod (d:=d) hS.oP) λv _=>?_;refine go ?_;by_cases h:nT d.rules=[]
 .rw[show decide (((nT d.rules).length:Int)=0)=true from eB (by rw[h];rfl)];refine fH (uZ (b:=true) (e:=171)) (next:=λ_ _=>?_);refine go ?_;exact gQ 0 ⟨λ_=>h,λ_=>rfl⟩
 .rw[show decide (((nT d.rules).length:Int)=0)=false from dA (λe=>h (pU.1 s6))];refine fH (uZ (b:=false) (e:=171)) (next:=λ_ _=>?_);refine go ?_;exact gQ 171 ⟨(λh=>by cases h),λe=>absurd e h⟩
def aoH(hT:Dl d):fC prog 227 [.agg ⟨oO d vh vs vr vc vu⟩] (uQ d vh vs vr vc vu) (λe:Int=>iV e) (λe=>e=0↔PV d):=by
 have hS:=hT.s;refine gB 227 λB w0=>?_;refine go ?_;intro b1 b3 b14;refine gP b1 ?_;refine go ?_;refine qY ?_;refine gC (aoA (b:=b1) (d:=d) hS) λe he=>?_;refine aK (λhne=>?_) (λhz=>?_)
 .refine go ?_;exact gQ e ⟨λh=>absurd h hne,λh=>absurd (he.2 h.lim) hne⟩
 have k1:=he.1 (j6.1 hz);clear hz he;refine go ?_;refine qY ?_;refine gC (aoB (b:=b1) (d:=d) hS) λe he=>?_;refine aK (λhne=>?_) (λhz=>?_)
 .refine go ?_;exact gQ e ⟨λh=>absurd h hne,λh=>absurd (he.2 ⟨h.rs,h.same⟩) hne⟩
 have k2:=he.1 (j6.1 hz);clear hz he;refine go ?_;refine qY ?_;refine gC (aoC (b:=b1) (d:=d)) λe he=>?_;refine aK (λhne=>?_) (λhz=>?_)
 .refine go ?_;exact gQ e ⟨λh=>absurd h hne,λh=>absurd (he.2 h.ver) hne⟩
 have k3:=he.1 (j6.1 hz);clear hz he;refine go ?_;refine qY ?_;refine gC (aoD (b:=b1) (bg:=b3) (d:=d) hT) λy hy=>?_;obtain⟨ok,gh,gc⟩:=y;cases ok with
 |false=>
  dsimp only[cond,zU,List.cons_append,List.nil_append]at hy⊢;refine go ?_;exact gQ 130 ⟨(λh=>by cases h),λh=>absurd (hy.2 h.PW) s7⟩
 |true=>
 have hmk:=hy.1 rfl;have hG:=Vp hmk;dsimp only[cond,zU];rw[show EU d.shape d.w d.h d.holes=bO d from rfl];dsimp only[tY,List.cons_append,List.nil_append];refine gP b3 ?_;refine go ?_;refine qY ?_;refine gC (aoE (b:=b1) (bg:=b3) (d:=d) (g:=bO d) (gh:=gh) (gc:=gc) hS hG) λe he=>?_;refine aK (λhne=>?_) (λhz=>?_)
 .refine go ?_;exact gQ e ⟨λh=>absurd h hne,λh=>absurd (he.2 h.wH) hne⟩
 have k5:=he.1 (j6.1 hz);clear hz he;refine go ?_;refine qY ?_;refine gC (aoF (b:=b1) (d:=d) hS) λe he=>?_;refine aK (λhne=>?_) (λhz=>?_)
 .refine go ?_;exact gQ e ⟨λh=>absurd h hne,λh=>absurd (he.2 h.form) hne⟩
 have k6:=he.1 (j6.1 hz);clear hz he;refine go ?_;refine qY ?_;refine gC (aoG (b:=b1) (d:=d) hS) λe he=>?_;refine aK (λhne=>?_) (λhz=>?_)
 .refine go ?_;exact gQ e ⟨λh=>absurd h hne,λh=>absurd (he.2 h.read) hne⟩
 have k7:=he.1 (j6.1 hz);clear hz he;refine go ?_;refine qY ?_;refine go ?_;exact gQ 0 ⟨λ_=>⟨k1,k2.1,k2.2,k3,hmk,k5,k6,k7⟩,λ_=>rfl⟩
