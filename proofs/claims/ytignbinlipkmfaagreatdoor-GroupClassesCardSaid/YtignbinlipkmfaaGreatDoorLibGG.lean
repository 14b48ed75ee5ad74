/- Part. -/
import Derived.Test.YtignbinlipkmfaaGreatDoorLibFG
set_option linter.all false
set_option maxRecDepth 10000
set_option maxHeartbeats 4000000
namespace Go.Proofs.YtignbinlipkmfaaGreatDoor
open Tryz (prog)
open Go.Ideal Kd
structure Q8(d:dA):Prop where
 dZ:∀s∈d.symbols,0<=s.value/\s.value<=99
 pV:∀r∈d.rules,Ii (iX r.kind) d.bY r
 mR:∀(i:Nat) (c:iR),d.bY[i]? =some c->(d.rules.map (·.bD)).count (i:Int)=1/\zl c
variable{d:dA}{vh vs vr vc vu:ah}
def alA(hS:sF d):
 fC prog 170 [.agg ⟨mQ d vh vs vr vc vu⟩] [aA jH vs d.symbols,aA eX vc d.bY,aA bQ vu d.rules] (λb:Bool=>.bool b) (λb=>b=true↔Q8 d):=by
 have hsl:=hS.dZ;have hcl:=hS.mR;have qi:=hS.pV;refine gB 170 λB w0=>?_;refine gF jH vs d.symbols λwK cs1 es=>?_;subst es;refine gF eX vc d.bY λac cc ec=>?_;subst ec;refine gF bQ vu d.rules λau cu eu=>?_;subst eu;refine go ?_;intro b1;refine gP b1 ?_;refine gN d.symbols.length 13 (λk=>k<=d.symbols.length/\∀s∈d.symbols.take k,0<=s.value/\s.value<=99) ⟨bS _,qe⟩ ?_;rintro k ⟨hk,hall⟩;refine aP ?_ ?_<;>intro h1
 .refine gX jH (xs:=d.symbols) λ_ _ s (_:Unit) hs=>?_;have hsm:=aV hs;refine go ?_;intro b4;refine gH ?_ ?_<;>intro h2
  .refine aP ?_ ?_<;>intro h3
   .exact kj
   .refine go ?_;refine aY (k+1) (by show d.symbols.length - (k+1)<d.symbols.length - k;omega) ⟨p0,?_⟩;rw[gz hs];intro x hx;rcases fO.1 hx with hx|hx
    .exact hall x hx
    .rw[bF.1 hx];omega
  .exact kj
 have hks:k=d.symbols.length:=p0
 subst hks;rw[eH]at hall;refine go ?_;refine wz jN (λbm=>?_);refine go ?_;refine dS (λk:Nat=>d.rules.length - k) (λk=>[(30,iV (k:Int))]) (λk=>[fw jN bm (wE ((d.rules.take k).map (·.bD)))]) (λ_=>[]) (λk=>k<=d.rules.length/\∀r∈d.rules.take k,Ii (iX r.kind) d.bY r) 0 ⟨bS _,qe⟩ (hk:=qn) (body:=?_);rintro k ⟨hk,Q9⟩;have hcn:∀c:Int,((d.rules.take k).map (·.bD)).count c<=4096:=λc=>by
  have:=aiY c ((d.rules.take k).map (·.bD));rw[aS,gq]at this;omega
 refine aP ?_ ?_<;>intro h1
 .refine gX bQ (xs:=d.rules) λ_ _ r (vv:ah×ah) hr=>?_;have hrm:=aV hr;have hrn:=hS.zg r hrm;refine go ?_;intro b7;refine gC (alz (d:=d) (r:=r) (v1:=vv.1) (v2:=vv.2) hcl hrn.1 hrn.2) λb hb=>?_;cases b with
  |false=>
   refine go ?_;exact gQ false ⟨(λh=>by cases h),λh=>absurd (hb.2 (h.pV r hrm)) qe⟩
  |true=>
   have hR:=hb.1 rfl;have hc1:=hcn r.bD;have hst:wE ((d.rules.take (k+1)).map (·.bD))=upd r.bD (iV ((((d.rules.take k).map (·.bD)).count r.bD:Nat)+1)) (wE ((d.rules.take k).map (·.bD))):=by
    rw[gz hr,dQ,yo,XC]
   refine go ?_;refine Cw (aW:=jN) (b:=bm) (ay:=wE ((d.rules.take k).map (·.bD))) Bg r.bD ?_;rw[XD];refine go ?_;refine tu (aW:=jN) (b:=bm) (v:=iV ((((d.rules.take k).map (·.bD)).count r.bD:Nat)+1)) (ay:=wE ((d.rules.take k).map (·.bD))) Bg r.bD ?_;rw[<- hst];refine go ?_;refine aY (k+1) wk ⟨p0,?_⟩;rw[gz hr];intro x hx;rcases fO.1 hx with hx|hx
   .exact Q9 x hx
   .rw[bF.1 hx];exact hR
 have hkr:k=d.rules.length:=p0
 subst hkr;rw[eH]at Q9 hcn⊢;refine gN d.bY.length 47 (λk=>k<=d.bY.length/\∀(i:Nat) (c:iR),i<k->d.bY[i]? =some c->(d.rules.map (·.bD)).count (i:Int)=1/\zl c) ⟨bS _,λi c h=>by omega⟩ ?_;rintro k ⟨hk,YV⟩;refine aP ?_ ?_<;>intro h1
 .refine gX eX (xs:=d.bY) λ_ _ c (_:Unit) hc=>?_;have hck:=hcn (k:Int);refine go ?_;intro b9;refine go ?_;refine Cw (aW:=jN) (b:=bm) (ay:=wE (d.rules.map (·.bD))) Bg (k:Int) ?_;rw[XD];refine gH ?_ ?_<;>intro h2
  .refine gC (alg (c:=c)) λ_ _=>?_;refine go ?_;refine sZ rfl (λh3=>?_) (λh3=>?_)
   .refine go ?_;exact gQ false ⟨(λh=>by cases h),λh=>absurd (h.mR k c hc).2 h3⟩
   .refine go ?_;refine aY (k+1) (by show d.bY.length - (k+1)<d.bY.length - k;omega) ⟨p0,λi x hi hx=>?_⟩;by_cases hik:i=k
    .subst hik;rw[hc]at hx;cases hx;exact⟨p0,h3⟩
    .exact YV i x p0 hx
  .refine go ?_;exact gQ false ⟨(λh=>by cases h),λh=>by exfalso;have:=(h.mR k c hc).1;omega⟩
 have hkc:k=d.bY.length:=p0
 subst hkc;refine go ?_;exact gQ true ⟨λ_=>⟨hall,Q9,λi c hc=>YV i c (aT.1 hc).1 hc⟩,λ_=>rfl⟩
noncomputable def YW:=oG prog 232
def alB:lu prog 232=some YW:=qk
noncomputable def YX:=oG prog 281
def alC:lu prog 281=some YX:=qk
noncomputable def L9:=oG prog 72
def Ra:lu prog 72=some L9:=qk
variable{v:ah}{xs:ae Int}
def alD:bA prog (.func 232) [v] [] [] [aA ai v xs] (λb:Nat=>.func (.func 281) #[] #[ptr' b]) (λ_=>[]) (λb=>[dx b 0 [v]]) (λ_=>True):=by
 refine nZ YW alB λB w0=>?_;refine gF ai v xs λa c e=>?_;subst e;refine go ?_;intro b1;refine go ?_;refine gP b1 ?_;exact gQ b1 trivial
variable{b:Nat}
def alE(hl:xs.length<2^63):uL prog (λx:Int=>[jN x]) (.func 281) [] [ptr' b] [dx b 0 [v],aA ai v xs] (λys=>ys=xs):=by
 intro S inv ok step s0 xG y1 y2 F' h0 hok hy;rw[fG,fG,dW];refine nZ YX alC λB w0=>?_;refine go ?_;refine dS (λy:Nat×S=>xs.length - y.1) (λy=>[(7,iV (y.1:Int))]) (λy=>inv y.2) (λ_=>[]) (λy=>y.1<=xs.length/\ok (xs.take y.1) y.2/\iG step y.2 (xs.drop y.1)=iG step s0 xs) (0,s0) ⟨bS _,h0,rfl⟩ (body:=?_);rintro⟨k,s⟩ ⟨hk,hos,hrun⟩;dsimp only at hk hos hrun⊢;refine aP ?_ ?_<;>intro h1
 .refine go ?_;intro _ _ x hx;have hd:xs.drop k=x::xs.drop (k+1):=by
   rw[pg p0];congr 1;rw[bH p0]at hx;exact Option.some.inj hx
  have hX:xs.take k++x::xs.drop (k+1)=xs:=by rw[<- hd,qz]
  have sG:=hy _ s _ _ hos hX;rw[hd,iG]at hrun;refine gC sG λ_ _=>?_;cases hst:(step s x).2 with
  |true=>
   have hs1:step s x=((step s x).1,true):=Prod.ext rfl hst;rw[hs1]at hrun;refine go ?_;refine aY (k+1,(step s x).1) An ⟨by show k+1<=_;omega,?_,hrun⟩;show ok (xs.take (k+1)) _;rw[gz hx];exact hok _ s _ _ hos hX hst
  |false=>
   have hs1:step s x=((step s x).1,false):=Prod.ext rfl hst;rw[hs1]at hrun;dsimp only at hrun;exact nj
 have hke:k=xs.length:=p0
 subst hke;rw[List.drop_length]at hrun;exact nj
abbrev zm(P:Program)(fn:Fn)(first cap:ae ah)(F:ae aH)(p:ae Int->Bool)(x:ae Int):Prop:=
 ∀v:ah,bA P fn (first++[v]) cap [] (aA ai v x::F) (λ_:Unit=>.bool (p x)) (λ_=>[]) (λ_=>[]) (λ_=>True)
variable{va:ah}{fn:Fn}{first cap:ae ah}{F1:ae aH}{p:ae Int->Bool}
def alF{xs:ae (ae Int)}(hl:xs.length<2^63)(hp:∀x∈xs,zm prog fn first cap F1 p x):
 bA prog (.func 72) [va,.func fn ⟨first⟩ ⟨cap⟩] [] [ap (az ai) va xs] F1 (λr:Int=>iV r) (λ_=>[ap (az ai) va xs]) (λ_=>[]) (λr=>(0<=r↔xs.any p=true)):=by
 refine nZ L9 Ra λB w0=>?_;refine Ic (E:=az ai) (v:=va) (xs:=xs) λa hv=>?_;subst hv;refine gN xs.length 8 (λk=>k<=xs.length/\(xs.take k).any p=false) ⟨p0,qe⟩ ?_;rintro k ⟨hk,hno⟩;refine aP ?_ ?_<;>intro h1
 .have hx:xs[k]? =some (xs[k]'(p0)):=bH _;generalize xs[k]'(p0)=x at hx;refine go ?_;refine WC ai (v:=.slice a xs.length xs.length) (xss:=xs) k x hx (next:=λb o u=>?_);refine gC (hp x (aV hx) u) λ_ _=>?_;refine go ?_;refine Aw rfl (λh2=>?_) (λh2=>?_)
  .refine go ?_;exact gQ (k:Int) ⟨λ_=>IX.2 ⟨x,aV hx,h2⟩,λ_=>by omega⟩
  .refine go ?_;refine aY (k+1) p0 ⟨p0,?_⟩;rw[gz hx,List.any_append,hno];simp[h2]
 refine go ?_;have:k=xs.length:=p0
 subst this;rw[eH]at hno;exact gQ (-1) ⟨λh=>by omega,λh=>by rw[hno]at h;cases h⟩
def alG{xs:ae (ae Int)}(hl:xs.length<2^63)(hp:∀x∈xs,zm prog fn first cap F1 p x):
 bA prog (.func 46) [va,.func fn ⟨first⟩ ⟨cap⟩] [] [ap (az ai) va xs] F1 (λ_:Unit=>.bool (xs.any p)) (λ_=>[ap (az ai) va xs]) (λ_=>[]) (λ_=>True):=by
 refine gB 46 λB w0=>?_;refine gC (alF hl hp) λr hr=>?_;refine bT ?_;have:xs.any p=decide (0<=r):=by rw[Bu,nE];exact hr.symm
 rw[this];rfl
def alH{vx:ah}{zs:ae Int}(hl:zs.length<2^63)(ys:ae Int):zm prog (.func 233) [] [ptr' b] [dx b 0 [vx],aA ai vx zs] (λy=>decide (zs=y)) ys:=by
 intro v;rw[dW];refine gB 233 λB w0=>?_;refine gC (uY (xs:=zs) (ys:=ys) hl) λ_ _=>?_;exact fH
def Ij(g:bM)(r:pQ):Prop:=(fT g/\wD g r.lists)/\(r.lists.map bP).Nodup
variable{gh gc:ah}{g:bM}
def alI(hS:sF d)(hG:xQ g):
 fC prog 168 [.agg ⟨mQ d vh vs vr vc vu⟩,.agg ⟨mI g gh gc⟩] (aA kz vr d.regions::qV g gh gc) (λe:Int=>iV e) (λe=>e=0↔∀r∈d.regions,Ij g r):=by
 have hrl:=hS.regs;refine gB 168 λB w0=>?_;refine gF kz vr d.regions λar cr er=>?_;subst er;refine go ?_;intro b2 b3;refine gP b2 ?_;refine gP b3 ?_;refine gN d.regions.length 16 (λk=>k<=d.regions.length/\∀r∈d.regions.take k,Ij g r) ⟨bS _,qe⟩ ?_;rintro k ⟨hk,hall⟩;refine aP ?_ ?_<;>intro h1
 .refine gX kz (xs:=d.regions) λ_ _ r (vl:ah) hr=>?_;have hrm:=aV hr;obtain⟨hl1,hl2⟩:=hS.zh r hrm;refine go ?_;intro b6;refine gC (YT (g:=g) (rs:=r.lists) hG hl1 hl2) λy hy=>?_;obtain⟨v7,e⟩:=y;dsimp only at hy⊢;refine aP ?_ ?_<;>intro h2
  .refine go ?_;exact gQ e ⟨(λh=>absurd h h2),λh=>absurd (hy.2 (h r hrm).1) h2⟩
  have he:e=0:=lV.1 h2;obtain⟨hg,hro⟩:=hy.1 he;have hgl:=hg.len;have hrl2:=hro.len;refine gF (az ai) vl r.lists λal cl el=>?_;subst el;refine go ?_;refine mF (az ai) ?_;refine dS (λy:Nat×ah=>r.lists.length - y.1) (λy=>[(33,iV (y.1:Int)),(9,y.2)]) (λy=>[ap (az ai) y.2 ((r.lists.take y.1).map bP)]) (λ_=>[]) (λy=>y.1<=r.lists.length/\((r.lists.take y.1).map bP).Nodup) (0,.slice none 0 0) ⟨bS _,qe⟩ (hk:=qn) (body:=?_);rintro⟨j,v9⟩ ⟨hj,hnd⟩;dsimp only at hj hnd⊢;have hjl:((r.lists.take j).map bP).length=j:=tW
  refine aP ?_ ?_<;>intro h3
  .refine gX (az ai) (xs:=r.lists) λ_ _ ps (vp:ah) hps=>?_;have hpm:=aV hps;have hP:=hro.all ps hpm;have hpl:ps.length<=256:=by have:=Qf hP.mem hP.nd;omega
   refine gC (alD (v:=vp) (xs:=ps)) λbv _=>?_;refine gC (YQ (alE (b:=bv) (v:=vp) (xs:=ps) p0) (λys h=>by rw[h];omega)) λy hy2=>?_;obtain⟨v39,zs⟩:=y;dsimp only[List.cons_append,List.nil_append]at hy2⊢;subst hy2;have hzl:=AO zs;refine gZ (jk (E:=ai) (v:=v39) (xs:=bP zs)) ?_;refine gF ai v39 (bP zs) λa39 Rb e39=>?_;subst e39;refine go ?_;intro b12;refine gP b12 ?_;refine gC (alG (fn:=.func 233) (first:=[]) (cap:=[ptr' b12]) (F1:=[dx b12 0 [.slice a39 (bP zs).length Rb],aA ai (.slice a39 (bP zs).length Rb) (bP zs)]) (p:=λy=>decide (bP zs=y)) (va:=v9) (xs:=(r.lists.take j).map bP) p0 (λx _=>alH p0 x)) λ_ _=>?_;have htk:(r.lists.take (j+1)).map bP=(r.lists.take j).map bP++[bP zs]:=by rw[gz hps,dQ,yo]
   refine go ?_;refine Aw rfl (λh4=>?_) (λh4=>?_)
   .refine go ?_;refine gQ 161 ⟨(λh=>by cases h),λh=>?_⟩
    exfalso
    have h5:=(h r hrm).2;have h6:((r.lists.take (j+1)).map bP).Nodup:=h5.sublist ((List.take_sublist _ _).map _);rw[htk,iT]at h6;obtain⟨x,hx,hx2⟩:=IX.1 h4;exact h6.2.2 x hx _ (bF.2 rfl) (jT hx2).symm
   .refine go ?_;intro b45;refine go ?_;refine l7 (xs:=(r.lists.take j).map bP) (az ai) (bP zs) (.slice a39 (bP zs).length Rb) p0 (next:=λad=>?_);rw[<- htk];refine go ?_;refine aY (j+1,.slice ad (((r.lists.take j).map bP).length+1) (((r.lists.take j).map bP).length+1)) (by show r.lists.length - (j+1)<r.lists.length - j;omega) ⟨by show j+1<=_;omega,?_⟩;show((r.lists.take (j+1)).map bP).Nodup;rw[htk,iT];refine⟨hnd,qe,λa ha b hb e=>?_⟩;rw[bF.1 hb]at e;subst e;rw[IY]at h4;exact h4 _ ha (fo rfl)
  have om:j=r.lists.length:=p0
  subst om;rw[eH]at hnd;refine go ?_;refine aY (k+1) As ⟨p0,?_⟩;rw[gz hr];intro x hx;rcases fO.1 hx with hx|hx
  .exact hall x hx
  .rw[bF.1 hx];exact⟨⟨hg,hro⟩,hnd⟩
 have hke:k=d.regions.length:=p0
 subst hke;rw[eH]at hall;refine go ?_;exact gQ 0 ⟨λ_=>hall,λ_=>rfl⟩
structure YY(d:dA):Prop where
 s0:0<d.symbols.length
 s1:d.symbols.length<=16
 r:d.regions.length<=4
 c:d.bY.length<=4
 u:d.rules.length<=16
structure Ma(d:dA):Prop where
 lim:YY d
 rs:EE d
 same:Kd.dJ d=d
 ver:1<=d.version/\d.version<=255
 Mc:tL d.shape d.w d.h d.holes
 CR:∀r∈d.regions,Ij (bI d) r
 form:Q8 d
 read:mZ d.rules=[]
structure Bh(d:dA):Prop where
 s:sF d
 w:kV d.w
 h:kV d.h
 holes:d.holes.length<4611686018427387904
def Rc(hm:tL d.shape d.w d.h d.holes):xQ (bI d):=by
 have hb:=CG hm.wi hm.he;have h1:=hm.wi;have h2:=hm.he;have h3:=hm.len;have h4:=Lf (d.w*d.h).toNat d.holes;refine⟨?_,?_,?_,?_⟩
 .show kV d.w;unfold kV;omega
 .show kV d.h;unfold kV;omega
 .show d.holes.length<_;omega
 .show(rZ d.w d.h d.holes).length<_;unfold rZ;omega
abbrev tF(b:Nat)(d:dA)(vh vs vr vc vu:ah):ae aH:=dx b 0 (mQ d vh vs vr vc vu)::rY d vh vs vr vc vu
def alK(hS:sF d):bA prog (.func 162) [] [ptr' b] [] (tF b d vh vs vr vc vu) (λe:Int=>iV e) (λ_=>[]) (λ_=>[]) (λe=>e=0↔YY d):=by
 have hsl:=hS.dZ;have hrl:=hS.regs;have hcl:=hS.mR;have qi:=hS.pV;refine gB 162 λB w0=>?_;refine gH ?_ ?_<;>intro h1
 .refine gC (sH (b:=false) (e:=2)) λ_ _=>?_;refine go ?_;refine gQ _ ⟨λh=>?_,λh=>?_⟩
  .cases h
  .exact absurd h.s0 p0
 refine gH ?_ ?_<;>intro h2
 .refine gC (sH (b:=false) (e:=2)) λ_ _=>?_;refine go ?_;refine gQ _ ⟨λh=>?_,λh=>?_⟩
  .cases h
  .exact absurd h.s1 p0
 refine gH ?_ ?_<;>intro h3
 .refine gC (sH (b:=false) (e:=2)) λ_ _=>?_;refine go ?_;refine gQ _ ⟨λh=>?_,λh=>?_⟩
  .cases h
  .exact absurd h.r p0
 refine gH ?_ ?_<;>intro h4
 .refine gC (sH (b:=false) (e:=2)) λ_ _=>?_;refine go ?_;refine gQ _ ⟨λh=>?_,λh=>?_⟩
  .cases h
  .exact absurd h.c p0
 refine go ?_;by_cases h5:d.rules.length<=16
 .rw[show decide ((d.rules.length:Int)<=16)=true from fo p0];refine jY (sH (b:=true) (e:=2)) (next:=λ_ _=>?_);refine go ?_;refine gQ _ ⟨λh=>?_,λh=>?_⟩
  .exact⟨p0,p0,p0,p0,h5⟩
  .rfl
 .rw[show decide ((d.rules.length:Int)<=16)=false from di p0];refine jY (sH (b:=false) (e:=2)) (next:=λ_ _=>?_);refine go ?_;refine gQ _ ⟨λh=>?_,λh=>?_⟩
  .cases h
  .exact absurd h.u h5
def sF.dJ(hS:sF d):sF (Kd.dJ d):=by
 refine⟨hS.dZ,hS.regs,?_,?_,?_,hS.holes,hS.zh⟩
 .show(d.bY.map _).length<=_;rw[aS];exact hS.mR
 .show(d.rules.map _).length<=_;rw[aS];exact hS.pV
 .intro r hr;obtain⟨q,hq,rfl⟩:=cZ.1 (show r∈d.rules.map _ from hr);exact hS.zg q hq
def alL(hS:sF d):bA prog (.func 164) [] [ptr' b] [] (tF b d vh vs vr vc vu) (λe:Int=>iV e) (λ_=>[]) (λ_=>[]) (λe=>e=0↔EE d/\Kd.dJ d=d):=by
 refine gB 164 λB w0=>?_;refine gC (Yw (d:=d) hS) λy hy=>?_;obtain⟨ok,e,v1,v2⟩:=y;dsimp only[Be,u7,ER]at hy⊢;cases ok with
 |false=>
  obtain⟨he,hno⟩:=hy.2 rfl;dsimp only[cond];refine go ?_;intro b2;refine aP ?_ ?_<;>intro h1
  .refine go ?_;exact gQ e ⟨λh=>absurd h he,λh=>absurd h.1 hno⟩
  .exact absurd (lV.1 h1) he
 |true=>
  obtain⟨he,hres⟩:=hy.1 rfl;subst he;dsimp only[cond,List.cons_append,List.nil_append];refine go ?_;intro b2;refine go ?_;have hsy:eU prog 101 [.agg ⟨mQ (Kd.dJ d) vh vs vr v1 v2⟩,.agg ⟨mQ d vh vs vr vc vu⟩] [aA ai vh d.holes,aA jH vs d.symbols,aA kz vr d.regions,aA eX v1 (Kd.dJ d).bY,aA bQ v2 (Kd.dJ d).rules,aA eX vc d.bY,aA bQ vu d.rules] (.bool (decide (Kd.dJ d=d))):=
   (YD (x:=Kd.dJ d) (y:=d) (h1:=vh) (s1:=vs) (r1:=vr) (c1:=v1) (u1:=v2) (h2:=vh) (s2:=vs) (r2:=vr) (c2:=vc) (u2:=vu) hS.dJ).facts (λf hf=>by
     simp only[rY,fG,dW,bN,Fs,or_false]at hf⊢;rcases hf with rfl|rfl|rfl|rfl|rfl|rfl|rfl|rfl|rfl|rfl
     .exact .inl rfl
     .exact .inr (.inl rfl)
     .exact .inr (.inr (.inl rfl))
     .simp
     .simp
     .exact .inl rfl
     .exact .inr (.inl rfl)
     .exact .inr (.inr (.inl rfl))
     .simp
     .simp)
  refine jY hsy (next:=λ_ _=>?_);refine go ?_;by_cases hr:Kd.dJ d=d
  .rw[fo hr];refine jY (sH (b:=true) (e:=170)) (next:=λ_ _=>?_);refine go ?_;exact gQ 0 ⟨λ_=>⟨hres,hr⟩,λ_=>rfl⟩
  .rw[di hr];refine jY (sH (b:=false) (e:=170)) (next:=λ_ _=>?_);refine go ?_;exact gQ 170 ⟨(λh=>by cases h),λh=>absurd h.2 hr⟩
def alM:bA prog (.func 165) [] [ptr' b] [] (tF b d vh vs vr vc vu) (λe:Int=>iV e) (λ_=>[]) (λ_=>[]) (λe=>e=0↔(1<=d.version/\d.version<=255)):=by
 refine gB 165 λB w0=>?_;refine gH ?_ ?_<;>intro h1
 .refine gC (sH (b:=false) (e:=170)) λ_ _=>?_;refine go ?_;exact gQ 170 ⟨(λh=>by cases h),λh=>by exfalso;omega⟩
 refine go ?_;by_cases h2:d.version<=255
 .rw[fo h2];refine jY (sH (b:=true) (e:=170)) (next:=λ_ _=>?_);refine go ?_;exact gQ 0 ⟨λ_=>⟨p0,h2⟩,λ_=>rfl⟩
 .rw[di h2];refine jY (sH (b:=false) (e:=170)) (next:=λ_ _=>?_);refine go ?_;exact gQ 170 ⟨(λh=>by cases h),λh=>absurd h.2 h2⟩
variable{bg:Nat}
def alN(hT:Bh d):bA prog (.func 166) [] [ptr' b,ptr' bg] [pt bg (.cells Ib)] (tF b d vh vs vr vc vu) (λy:QO=>iV (cond y.ok 0 130))
 (λy=>[pt bg (.cells (cond y.ok (mI (CQ d.shape d.w d.h d.holes) y.vh y.vc) Ib))]) (xP d.shape d.w d.h d.holes) (λy=>y.ok=true↔tL d.shape d.w d.h d.holes):=by
 refine gB 166 λB w0=>?_;refine gC (QR (s:=d.shape) (w:=d.w) (h:=d.h) (holes:=d.holes) (vh:=vh) hT.w hT.h hT.holes) λy hy=>?_;obtain⟨ok,v1,v2⟩:=y;cases ok with
 |false=>
  dsimp only[mkV,xP,cond,List.nil_append]at hy⊢;refine go ?_;exact gQ ⟨false,v1,v2⟩ hy
 |true=>
  dsimp only[mkV,xP,cond,qV,CQ,List.cons_append,List.nil_append]at hy⊢;refine go ?_;exact gQ ⟨true,v1,v2⟩ hy (hF:=by show Sub [aA ai v1 d.holes,aA ai v2 (rZ d.w d.h d.holes)] _;exact .cons qe (.cons qe .nil))
def alO(hS:sF d)(hG:xQ g):bA prog (.func 167) [] [ptr' b,ptr' bg] [] (dx bg 0 (mI g gh gc)::aA ai gh g.holes::aA ai gc g.cells::tF b d vh vs vr vc vu) (λe:Int=>iV e) (λ_=>[]) (λ_=>[]) (λe=>e=0↔∀r∈d.regions,Ij g r):=by
 refine gB 167 λB w0=>?_;refine gC (alI (d:=d) (g:=g) (gh:=gh) (gc:=gc) hS hG) λe he=>?_;refine go ?_;exact gQ e he
def alP(hS:sF d):bA prog (.func 169) [] [ptr' b] [] (tF b d vh vs vr vc vu) (λe:Int=>iV e) (λ_=>[]) (λ_=>[]) (λe=>e=0↔Q8 d):=by
 refine gB 169 λB w0=>?_;refine gC (alA (d:=d) hS) λc hc=>?_;refine gC (sH (b:=c) (e:=170)) λ_ _=>?_;refine go ?_;cases c with
 |false=>exact gQ 170 ⟨(λh=>by cases h),λh=>absurd (hc.2 h) qe⟩
 |true=>exact gQ 0 ⟨λ_=>hc.1 rfl,λ_=>rfl⟩
def alQ(hS:sF d):bA prog (.func 171) [] [ptr' b] [] (tF b d vh vs vr vc vu) (λe:Int=>iV e) (λ_=>[]) (λ_=>[]) (λe=>e=0↔mZ d.rules=[]):=by
 refine gB 171 λB w0=>?_;refine gC (alf (d:=d) hS.pV) λv _=>?_;refine go ?_;by_cases h:mZ d.rules=[]
 .rw[show decide (((mZ d.rules).length:Int)=0)=true from fo (by rw[h];rfl)];refine jY (sH (b:=true) (e:=171)) (next:=λ_ _=>?_);refine go ?_;exact gQ 0 ⟨λ_=>h,λ_=>rfl⟩
 .rw[show decide (((mZ d.rules).length:Int)=0)=false from di (λe=>h (mo.1 p0))];refine jY (sH (b:=false) (e:=171)) (next:=λ_ _=>?_);refine go ?_;exact gQ 171 ⟨(λh=>by cases h),λe=>absurd e h⟩
def alR(hT:Bh d):fC prog 95 [.agg ⟨mQ d vh vs vr vc vu⟩] (rY d vh vs vr vc vu) (λe:Int=>iV e) (λe=>e=0↔Ma d):=by
 have hS:=hT.s;refine gB 95 λB w0=>?_;refine go ?_;intro b1 b3 b14;refine gP b1 ?_;refine go ?_;refine pO ?_;refine gC (alK (b:=b1) (d:=d) hS) λe he=>?_;refine aP (λhne=>?_) (λhz=>?_)
 .refine go ?_;exact gQ e ⟨λh=>absurd h hne,λh=>absurd (he.2 h.lim) hne⟩
 have k1:=he.1 (lV.1 hz);clear hz he;refine go ?_;refine pO ?_;refine gC (alL (b:=b1) (d:=d) hS) λe he=>?_;refine aP (λhne=>?_) (λhz=>?_)
 .refine go ?_;exact gQ e ⟨λh=>absurd h hne,λh=>absurd (he.2 ⟨h.rs,h.same⟩) hne⟩
 have k2:=he.1 (lV.1 hz);clear hz he;refine go ?_;refine pO ?_;refine gC (alM (b:=b1) (d:=d)) λe he=>?_;refine aP (λhne=>?_) (λhz=>?_)
 .refine go ?_;exact gQ e ⟨λh=>absurd h hne,λh=>absurd (he.2 h.ver) hne⟩
 have k3:=he.1 (lV.1 hz);clear hz he;refine go ?_;refine pO ?_;refine gC (alN (b:=b1) (bg:=b3) (d:=d) hT) λy hy=>?_;obtain⟨ok,gh,gc⟩:=y;cases ok with
 |false=>
  dsimp only[cond,xP,List.cons_append,List.nil_append]at hy⊢;refine go ?_;exact gQ 130 ⟨(λh=>by cases h),λh=>absurd (hy.2 h.Mc) qe⟩
 |true=>
 have hmk:=hy.1 rfl;have hG:=Rc hmk;dsimp only[cond,xP];rw[show CQ d.shape d.w d.h d.holes=bI d from rfl];dsimp only[qV,List.cons_append,List.nil_append];refine gP b3 ?_;refine go ?_;refine pO ?_;refine gC (alO (b:=b1) (bg:=b3) (d:=d) (g:=bI d) (gh:=gh) (gc:=gc) hS hG) λe he=>?_;refine aP (λhne=>?_) (λhz=>?_)
 .refine go ?_;exact gQ e ⟨λh=>absurd h hne,λh=>absurd (he.2 h.CR) hne⟩
 have k5:=he.1 (lV.1 hz);clear hz he;refine go ?_;refine pO ?_;refine gC (alP (b:=b1) (d:=d) hS) λe he=>?_;refine aP (λhne=>?_) (λhz=>?_)
 .refine go ?_;exact gQ e ⟨λh=>absurd h hne,λh=>absurd (he.2 h.form) hne⟩
 have k6:=he.1 (lV.1 hz);clear hz he;refine go ?_;refine pO ?_;refine gC (alQ (b:=b1) (d:=d) hS) λe he=>?_;refine aP (λhne=>?_) (λhz=>?_)
 .refine go ?_;exact gQ e ⟨λh=>absurd h hne,λh=>absurd (he.2 h.read) hne⟩
 have k7:=he.1 (lV.1 hz);clear hz he;refine go ?_;refine pO ?_;refine go ?_;exact gQ 0 ⟨λ_=>⟨k1,k2.1,k2.2,k3,hmk,k5,k6,k7⟩,λ_=>rfl⟩
