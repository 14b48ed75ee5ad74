/- Part. -/
import Derived.Test.YtoilpafpgndilaaGreatLibFJ
set_option linter.all false
set_option maxRecDepth 10000
set_option maxHeartbeats 4000000
namespace Go.Proofs.YtoilpafpgndilaaGreat
open Tryz (prog)
open Go.Ideal Kd
structure TV(d:dQ):Prop where
 fB:∀s∈d.symbols,0<=s.value/\s.value<=99
 qZ:∀r∈d.rules,J4 (jG r.kind) d.bV r
 om:∀(i:Nat) (c:ji),d.bV[i]? =some c->(d.rules.map (·.aS)).count (i:Int)=1/\Bu c
variable{d:dQ}{vh vs vr vc vu:ah}
def amP(hS:uP d):
 fC prog 304 [.agg ⟨oM d vh vs vr vc vu⟩] [aj kF vs d.symbols,aj eZ vc d.bV,aj bZ vu d.rules] (λb:Bool=>.bool b) (λb=>b=true↔TV d):=by
 have hsl:=hS.fB;have hcl:=hS.om;have rq:=hS.qZ;refine gB 304 λB w0=>?_;refine gF kF vs d.symbols λqd cs1 es=>?_;subst es;refine gF eZ vc d.bV λac cc ec=>?_;subst ec;refine gF bZ vu d.rules λau cu eu=>?_;subst eu;refine go ?_;intro b1;refine gP b1 ?_;refine gN d.symbols.length 13 (λk=>k<=d.symbols.length/\∀s∈d.symbols.take k,0<=s.value/\s.value<=99) ⟨bM _,s7⟩ ?_;rintro k ⟨hk,hall⟩;refine aO ?_ ?_<;>intro h1
 .refine gX kF (xs:=d.symbols) λ_ _ s (_:Unit) hs=>?_;have hsm:=aT hs;refine go ?_;intro b4;refine gH ?_ ?_<;>intro h2
  .refine aO ?_ ?_<;>intro h3
   .exact nj
   .refine go ?_;refine aU (k+1) (by show d.symbols.length - (k+1)<d.symbols.length - k;omega) ⟨s6,?_⟩;rw[fF hs];intro x hx;rcases fq.1 hx with hx|hx
    .exact hall x hx
    .rw[bA.1 hx];omega
  .exact nj
 have hks:k=d.symbols.length:=s6
 subst hks;rw[fu]at hall;refine go ?_;refine yD jK (λbm=>?_);refine go ?_;refine dV (λk:Nat=>d.rules.length - k) (λk=>[(30,iV (k:Int))]) (λk=>[fV jK bm (yH ((d.rules.take k).map (·.aS)))]) (λ_=>[]) (λk=>k<=d.rules.length/\∀r∈d.rules.take k,J4 (jG r.kind) d.bV r) 0 ⟨bM _,s7⟩ (hk:=s9) (body:=?_);rintro k ⟨hk,TW⟩;have hcn:∀c:Int,((d.rules.take k).map (·.aS)).count c<=4096:=λc=>by
  have:=aj9 c ((d.rules.take k).map (·.aS));rw[aR,fU]at this;omega
 refine aO ?_ ?_<;>intro h1
 .refine gX bZ (xs:=d.rules) λ_ _ r (vv:ah×ah) hr=>?_;have hrm:=aT hr;have hrn:=hS.Bp r hrm;refine go ?_;intro b7;refine gC (amO (d:=d) (r:=r) (v1:=vv.1) (v2:=vv.2) hcl hrn.1 hrn.2) λb hb=>?_;cases b with
  |false=>
   refine go ?_;exact gQ false ⟨(λh=>by cases h),λh=>absurd (hb.2 (h.qZ r hrm)) s7⟩
  |true=>
   have hR:=hb.1 rfl;have hc1:=hcn r.aS;have hst:yH ((d.rules.take (k+1)).map (·.aS))=upd r.aS (iV ((((d.rules.take k).map (·.aS)).count r.aS:Nat)+1)) (yH ((d.rules.take k).map (·.aS))):=by
    rw[fF hr,cB,l6,Z4]
   refine go ?_;refine Ex (bB:=jK) (b:=bm) (aA:=yH ((d.rules.take k).map (·.aS))) Db r.aS ?_;rw[Z5];refine go ?_;refine vJ (bB:=jK) (b:=bm) (v:=iV ((((d.rules.take k).map (·.aS)).count r.aS:Nat)+1)) (aA:=yH ((d.rules.take k).map (·.aS))) Db r.aS ?_;rw[<- hst];refine go ?_;refine aU (k+1) BW ⟨s6,?_⟩;rw[fF hr];intro x hx;rcases fq.1 hx with hx|hx
   .exact TW x hx
   .rw[bA.1 hx];exact hR
 have hkr:k=d.rules.length:=s6
 subst hkr;rw[fu]at TW hcn⊢;refine gN d.bV.length 47 (λk=>k<=d.bV.length/\∀(i:Nat) (c:ji),i<k->d.bV[i]? =some c->(d.rules.map (·.aS)).count (i:Int)=1/\Bu c) ⟨bM _,λi c h=>by omega⟩ ?_;rintro k ⟨hk,abw⟩;refine aO ?_ ?_<;>intro h1
 .refine gX eZ (xs:=d.bV) λ_ _ c (_:Unit) hc=>?_;have hck:=hcn (k:Int);refine go ?_;intro b9;refine go ?_;refine Ex (bB:=jK) (b:=bm) (aA:=yH (d.rules.map (·.aS))) Db (k:Int) ?_;rw[Z5];refine gH ?_ ?_<;>intro h2
  .refine gC (amy (c:=c)) λ_ _=>?_;refine go ?_;refine sQ rfl (λh3=>?_) (λh3=>?_)
   .refine go ?_;exact gQ false ⟨(λh=>by cases h),λh=>absurd (h.om k c hc).2 h3⟩
   .refine go ?_;refine aU (k+1) (by show d.bV.length - (k+1)<d.bV.length - k;omega) ⟨s6,λi x hi hx=>?_⟩;by_cases hik:i=k
    .subst hik;rw[hc]at hx;cases hx;exact⟨s6,h3⟩
    .exact abw i x s6 hx
  .refine go ?_;exact gQ false ⟨(λh=>by cases h),λh=>by exfalso;have:=(h.om k c hc).1;omega⟩
 have hkc:k=d.bV.length:=s6
 subst hkc;refine go ?_;exact gQ true ⟨λ_=>⟨hall,TW,λi c hc=>abw i c (aV.1 hc).1 hc⟩,λ_=>rfl⟩
noncomputable def TY:=qI prog 95
def abx:mO prog 95=some TY:=s8
noncomputable def TZ:=qI prog 127
def aby:mO prog 127=some TZ:=s8
noncomputable def Oh:=qI prog 96
def T9:mO prog 96=some Oh:=s8
variable{v:ah}{xs:ae Int}
def abz:aX prog (.func 95) [v] [] [] [aj ai v xs] (λb:Nat=>.func (.func 127) #[] #[ptr' b]) (λ_=>[]) (λb=>[bW b 0 [v]]) (λ_=>True):=by
 refine mq TY abx λB w0=>?_;refine gF ai v xs λa c e=>?_;subst e;refine go ?_;intro b1;refine go ?_;refine gP b1 ?_;exact gQ b1 trivial
variable{b:Nat}
def abA(hl:xs.length<2^63):CG prog (λx:Int=>[jK x]) (.func 127) [] [ptr' b] [bW b 0 [v],aj ai v xs] (λys=>ys=xs):=by
 intro S inv ok step s0 tq y1 y2 F' h0 hok hy;rw[dm,dm,cK];refine mq TZ aby λB w0=>?_;refine go ?_;refine dV (λy:Nat×S=>xs.length - y.1) (λy=>[(7,iV (y.1:Int))]) (λy=>inv y.2) (λ_=>[]) (λy=>y.1<=xs.length/\ok (xs.take y.1) y.2/\dA step y.2 (xs.drop y.1)=dA step s0 xs) (0,s0) ⟨bM _,h0,rfl⟩ (body:=?_);rintro⟨k,s⟩ ⟨hk,hos,hrun⟩;dsimp only at hk hos hrun⊢;refine aO ?_ ?_<;>intro h1
 .refine go ?_;intro _ _ x hx;have hd:xs.drop k=x::xs.drop (k+1):=by
   exact oE
  have hX:xs.take k++x::xs.drop (k+1)=xs:=by rw[<- hd,nE]
  have gy:=hy _ s _ _ hos hX;rw[hd,dA]at hrun;refine gC gy λ_ _=>?_;cases hst:(step s x).2 with
  |true=>
   have hs1:step s x=((step s x).1,true):=Prod.ext rfl hst;rw[hs1]at hrun;refine go ?_;refine aU (k+1,(step s x).1) An ⟨by show k+1<=_;omega,?_,hrun⟩;exact py
  |false=>
   exact gf
 have hke:k=xs.length:=s6
 subst hke;rw[Fp]at hrun;refine go ?_;exact gQ xs rfl (hk:=By)
abbrev zM(P:Program)(fn:Fn)(first cap:ae ah)(F:ae aI)(p:ae Int->Bool)(x:ae Int):Prop:=
 ∀v:ah,aX P fn (first++[v]) cap [] (aj ai v x::F) (λ_:Unit=>.bool (p x)) (λ_=>[]) (λ_=>[]) (λ_=>True)
variable{va:ah}{fn:Fn}{first cap:ae ah}{F1:ae aI}{p:ae Int->Bool}
def amQ{xs:ae (ae Int)}(hl:xs.length<2^63)(hp:∀x∈xs,zM prog fn first cap F1 p x):
 aX prog (.func 96) [va,.func fn ⟨first⟩ ⟨cap⟩] [] [ap (az ai) va xs] F1 (λr:Int=>iV r) (λ_=>[ap (az ai) va xs]) (λ_=>[]) (λr=>(0<=r↔xs.any p=true)):=by
 refine mq Oh T9 λB w0=>?_;refine Da (E:=az ai) (v:=va) (xs:=xs) λa hv=>?_;subst hv;refine gN xs.length 8 (λk=>k<=xs.length/\(xs.take k).any p=false) ⟨s6,s7⟩ ?_;rintro k ⟨hk,hno⟩;refine aO ?_ ?_<;>intro h1
 .have hx:xs[k]? =some (xs[k]'(s6)):=bG _;generalize xs[k]'(s6)=x at hx;refine go ?_;refine Zb ai (v:=.slice a xs.length xs.length) (xss:=xs) k x hx (next:=λb o u=>?_);refine gC (hp x (aT hx) u) λ_ _=>?_;refine go ?_;refine Cw rfl (λh2=>?_) (λh2=>?_)
  .refine go ?_;exact gQ (k:Int) ⟨λ_=>KU.2 ⟨x,aT hx,h2⟩,λ_=>by omega⟩
  .refine go ?_;refine aU (k+1) s6 ⟨s6,?_⟩;rw[fF hx,List.any_append,hno];simp[h2]
 refine go ?_;have:k=xs.length:=s6
 subst this;rw[fu]at hno;exact gQ (-1) ⟨λh=>by omega,λh=>by rw[hno]at h;cases h⟩
def amR{xs:ae (ae Int)}(hl:xs.length<2^63)(hp:∀x∈xs,zM prog fn first cap F1 p x):
 aX prog (.func 56) [va,.func fn ⟨first⟩ ⟨cap⟩] [] [ap (az ai) va xs] F1 (λ_:Unit=>.bool (xs.any p)) (λ_=>[ap (az ai) va xs]) (λ_=>[]) (λ_=>True):=by
 refine gB 56 λB w0=>?_;refine gC (amQ hl hp) λr hr=>?_;refine bF ?_;have:xs.any p=decide (0<=r):=by rw[Dx,jQ];exact hr.symm
 rw[this];rfl
def amS{vx:ah}{zs:ae Int}(hl:zs.length<2^63)(ys:ae Int):zM prog (.func 342) [] [ptr' b] [bW b 0 [vx],aj ai vx zs] (λy=>decide (zs=y)) ys:=by
 intro v;rw[cK];refine gB 342 λB w0=>?_;refine gC (vR (xs:=zs) (ys:=ys) hl) λ_ _=>?_;exact eH
def J5(g:bQ)(r:qV):Prop:=(ic g/\xe g r.lists)/\(r.lists.map bK).Nodup
variable{gh gc:ah}{g:bQ}
def amT(hS:uP d)(hG:zK g):
 fC prog 302 [.agg ⟨oM d vh vs vr vc vu⟩,.agg ⟨oz g gh gc⟩] (aj lG vr d.regions::tQ g gh gc) (λe:Int=>iV e) (λe=>e=0↔∀r∈d.regions,J5 g r):=by
 have hrl:=hS.regs;refine gB 302 λB w0=>?_;refine gF lG vr d.regions λar cr er=>?_;subst er;refine go ?_;intro b2 b3;refine gP b2 ?_;refine gP b3 ?_;refine gN d.regions.length 16 (λk=>k<=d.regions.length/\∀r∈d.regions.take k,J5 g r) ⟨bM _,s7⟩ ?_;rintro k ⟨hk,hall⟩;refine aO ?_ ?_<;>intro h1
 .refine gX lG (xs:=d.regions) λ_ _ r (vl:ah) hr=>?_;have hrm:=aT hr;obtain⟨hl1,hl2⟩:=hS.Bq r hrm;refine go ?_;intro b6;refine gC (abu (g:=g) (rs:=r.lists) hG hl1 hl2) λy hy=>?_;obtain⟨v7,e⟩:=y;dsimp only at hy⊢;refine aO ?_ ?_<;>intro h2
  .refine go ?_;exact gQ e ⟨(λh=>absurd h h2),λh=>absurd (hy.2 (h r hrm).1) h2⟩
  have he:e=0:=kv.1 h2;obtain⟨hg,hro⟩:=hy.1 he;have hgl:=hg.len;have hrl2:=hro.len;refine gF (az ai) vl r.lists λal cl el=>?_;subst el;refine go ?_;refine lT (az ai) ?_;refine dV (λy:Nat×ah=>r.lists.length - y.1) (λy=>[(33,iV (y.1:Int)),(9,y.2)]) (λy=>[ap (az ai) y.2 ((r.lists.take y.1).map bK)]) (λ_=>[]) (λy=>y.1<=r.lists.length/\((r.lists.take y.1).map bK).Nodup) (0,.slice none 0 0) ⟨bM _,s7⟩ (hk:=s9) (body:=?_);rintro⟨j,v9⟩ ⟨hj,hnd⟩;dsimp only at hj hnd⊢;have hjl:((r.lists.take j).map bK).length=j:=z6
  refine aO ?_ ?_<;>intro h3
  .refine gX (az ai) (xs:=r.lists) λ_ _ ps (vp:ah) hps=>?_;have hpm:=aT hps;have hP:=hro.all ps hpm;have hpl:ps.length<=256:=by have:=Sn hP.mem hP.nd;omega
   refine gC (abz (v:=vp) (xs:=ps)) λbv _=>?_;refine gC (TK (abA (b:=bv) (v:=vp) (xs:=ps) s6) (λys h=>by rw[h];omega)) λy hy2=>?_;obtain⟨v39,zs⟩:=y;dsimp only[List.cons_append,List.nil_append]at hy2⊢;subst hy2;have hzl:=Bb zs;refine gZ (jr (E:=ai) (v:=v39) (xs:=bK zs)) ?_;refine gF ai v39 (bK zs) λa39 Ua e39=>?_;subst e39;refine go ?_;intro b12;refine gP b12 ?_;refine gC (amR (fn:=.func 342) (first:=[]) (cap:=[ptr' b12]) (F1:=[bW b12 0 [.slice a39 (bK zs).length Ua],aj ai (.slice a39 (bK zs).length Ua) (bK zs)]) (p:=λy=>decide (bK zs=y)) (va:=v9) (xs:=(r.lists.take j).map bK) s6 (λx _=>amS s6 x)) λ_ _=>?_;have htk:(r.lists.take (j+1)).map bK=(r.lists.take j).map bK++[bK zs]:=by rw[fF hps,cB,l6]
   refine go ?_;refine Cw rfl (λh4=>?_) (λh4=>?_)
   .refine go ?_;refine gQ 161 ⟨(λh=>by cases h),λh=>?_⟩
    exfalso
    have h5:=(h r hrm).2;have h6:((r.lists.take (j+1)).map bK).Nodup:=h5.sublist ((List.take_sublist _ _).map _);rw[htk,jA]at h6;obtain⟨x,hx,hx2⟩:=KU.1 h4;exact h6.2.2 x hx _ (bA.2 rfl) (ko hx2).symm
   .refine go ?_;intro b45;refine go ?_;refine kY (xs:=(r.lists.take j).map bK) (az ai) (bK zs) (.slice a39 (bK zs).length Ua) s6 (next:=λad=>?_);rw[<- htk];refine go ?_;refine aU (j+1,.slice ad (((r.lists.take j).map bK).length+1) (((r.lists.take j).map bK).length+1)) (by show r.lists.length - (j+1)<r.lists.length - j;omega) ⟨by show j+1<=_;omega,?_⟩;show((r.lists.take (j+1)).map bK).Nodup;rw[htk,jA];refine⟨hnd,s7,λa ha b hb e=>?_⟩;rw[bA.1 hb]at e;subst e;rw[KW]at h4;exact h4 _ ha (eT rfl)
  have jT:j=r.lists.length:=s6
  subst jT;rw[fu]at hnd;refine go ?_;refine aU (k+1) Ek ⟨s6,?_⟩;rw[fF hr];intro x hx;rcases fq.1 hx with hx|hx
  .exact hall x hx
  .rw[bA.1 hx];exact⟨⟨hg,hro⟩,hnd⟩
 have hke:k=d.regions.length:=s6
 subst hke;rw[fu]at hall;refine go ?_;exact gQ 0 ⟨λ_=>hall,λ_=>rfl⟩
structure abB(d:dQ):Prop where
 s0:0<d.symbols.length
 s1:d.symbols.length<=16
 r:d.regions.length<=4
 c:d.bV.length<=4
 u:d.rules.length<=16
structure Oi(d:dQ):Prop where
 lim:abB d
 rs:Gy d
 same:Kd.ed d=d
 ver:1<=d.version/\d.version<=255
 Oj:vO d.shape d.w d.h d.holes
 Dc:∀r∈d.regions,J5 (bP d) r
 form:TV d
 read:oV d.rules=[]
structure De(d:dQ):Prop where
 s:uP d
 w:mF d.w
 h:mF d.h
 holes:d.holes.length<4611686018427387904
def Ub(hm:vO d.shape d.w d.h d.holes):zK (bP d):=by
 have hb:=ED hm.wi hm.he;have h1:=hm.wi;have h2:=hm.he;have h3:=hm.len;have h4:=Ns (d.w*d.h).toNat d.holes;refine⟨?_,?_,?_,?_⟩
 .show mF d.w;unfold mF;omega
 .show mF d.h;unfold mF;omega
 .show d.holes.length<_;omega
 .show(uG d.w d.h d.holes).length<_;unfold uG;omega
abbrev tF(b:Nat)(d:dQ)(vh vs vr vc vu:ah):ae aI:=bW b 0 (oM d vh vs vr vc vu)::uF d vh vs vr vc vu
def amV(hS:uP d):aX prog (.func 296) [] [ptr' b] [] (tF b d vh vs vr vc vu) (λe:Int=>iV e) (λ_=>[]) (λ_=>[]) (λe=>e=0↔abB d):=by
 have hsl:=hS.fB;have hrl:=hS.regs;have hcl:=hS.om;have rq:=hS.qZ;refine gB 296 λB w0=>?_;refine gH ?_ ?_<;>intro h1
 .refine gC (uQ (b:=false) (e:=2)) λ_ _=>?_;refine go ?_;refine gQ _ ⟨λh=>?_,λh=>?_⟩
  .cases h
  .exact absurd h.s0 s6
 refine gH ?_ ?_<;>intro h2
 .refine gC (uQ (b:=false) (e:=2)) λ_ _=>?_;refine go ?_;refine gQ _ ⟨λh=>?_,λh=>?_⟩
  .cases h
  .exact absurd h.s1 s6
 refine gH ?_ ?_<;>intro h3
 .refine gC (uQ (b:=false) (e:=2)) λ_ _=>?_;refine go ?_;refine gQ _ ⟨λh=>?_,λh=>?_⟩
  .cases h
  .exact absurd h.r s6
 refine gH ?_ ?_<;>intro h4
 .refine gC (uQ (b:=false) (e:=2)) λ_ _=>?_;refine go ?_;refine gQ _ ⟨λh=>?_,λh=>?_⟩
  .cases h
  .exact absurd h.c s6
 refine go ?_;by_cases h5:d.rules.length<=16
 .rw[show decide ((d.rules.length:Int)<=16)=true from eT s6];refine iy (uQ (b:=true) (e:=2)) (next:=λ_ _=>?_);refine go ?_;refine gQ _ ⟨λh=>?_,λh=>?_⟩
  .exact⟨s6,s6,s6,s6,h5⟩
  .rfl
 .rw[show decide ((d.rules.length:Int)<=16)=false from bY s6];refine iy (uQ (b:=false) (e:=2)) (next:=λ_ _=>?_);refine go ?_;refine gQ _ ⟨λh=>?_,λh=>?_⟩
  .cases h
  .exact absurd h.u h5
def uP.ed(hS:uP d):uP (Kd.ed d):=by
 refine⟨hS.fB,hS.regs,?_,?_,?_,hS.holes,hS.Bq⟩
 .show(d.bV.map _).length<=_;rw[aR];exact hS.om
 .show(d.rules.map _).length<=_;rw[aR];exact hS.qZ
 .intro r hr;obtain⟨q,hq,rfl⟩:=bS.1 (show r∈d.rules.map _ from hr);exact hS.Bp q hq
def amW(hS:uP d):aX prog (.func 298) [] [ptr' b] [] (tF b d vh vs vr vc vu) (λe:Int=>iV e) (λ_=>[]) (λ_=>[]) (λe=>e=0↔Gy d/\Kd.ed d=d):=by
 refine gB 298 λB w0=>?_;refine gC (aa4 (d:=d) hS) λy hy=>?_;obtain⟨ok,e,v1,v2⟩:=y;dsimp only[C9,xz,GN]at hy⊢;cases ok with
 |false=>
  obtain⟨he,hno⟩:=hy.2 rfl;dsimp only[cond];refine go ?_;intro b2;refine aO ?_ ?_<;>intro h1
  .refine go ?_;exact gQ e ⟨λh=>absurd h he,λh=>absurd h.1 hno⟩
  .exact absurd (kv.1 h1) he
 |true=>
  obtain⟨he,hres⟩:=hy.1 rfl;subst he;dsimp only[cond,List.cons_append,List.nil_append];refine go ?_;intro b2;refine go ?_;have hsy:dZ prog 142 [.agg ⟨oM (Kd.ed d) vh vs vr v1 v2⟩,.agg ⟨oM d vh vs vr vc vu⟩] [aj ai vh d.holes,aj kF vs d.symbols,aj lG vr d.regions,aj eZ v1 (Kd.ed d).bV,aj bZ v2 (Kd.ed d).rules,aj eZ vc d.bV,aj bZ vu d.rules] (.bool (decide (Kd.ed d=d))):=
   (abb (x:=Kd.ed d) (y:=d) (h1:=vh) (s1:=vs) (r1:=vr) (c1:=v1) (u1:=v2) (h2:=vh) (s2:=vs) (r2:=vr) (c2:=vc) (u2:=vu) hS.ed).facts (λf hf=>by
     simp only[uF,dm,cK,bH,Ab,or_false]at hf⊢;rcases hf with rfl|rfl|rfl|rfl|rfl|rfl|rfl|rfl|rfl|rfl
     .exact .inl rfl
     .exact .inr (.inl rfl)
     .exact .inr (.inr (.inl rfl))
     .simp
     .simp
     .exact .inl rfl
     .exact .inr (.inl rfl)
     .exact .inr (.inr (.inl rfl))
     .simp
     .simp)
  refine iy hsy (next:=λ_ _=>?_);refine go ?_;by_cases hr:Kd.ed d=d
  .rw[eT hr];refine iy (uQ (b:=true) (e:=170)) (next:=λ_ _=>?_);refine go ?_;exact gQ 0 ⟨λ_=>⟨hres,hr⟩,λ_=>rfl⟩
  .rw[bY hr];refine iy (uQ (b:=false) (e:=170)) (next:=λ_ _=>?_);refine go ?_;exact gQ 170 ⟨(λh=>by cases h),λh=>absurd h.2 hr⟩
def amX:aX prog (.func 299) [] [ptr' b] [] (tF b d vh vs vr vc vu) (λe:Int=>iV e) (λ_=>[]) (λ_=>[]) (λe=>e=0↔(1<=d.version/\d.version<=255)):=by
 refine gB 299 λB w0=>?_;refine gH ?_ ?_<;>intro h1
 .refine gC (uQ (b:=false) (e:=170)) λ_ _=>?_;refine go ?_;exact gQ 170 ⟨(λh=>by cases h),λh=>by exfalso;omega⟩
 refine go ?_;by_cases h2:d.version<=255
 .rw[eT h2];refine iy (uQ (b:=true) (e:=170)) (next:=λ_ _=>?_);refine go ?_;exact gQ 0 ⟨λ_=>⟨s6,h2⟩,λ_=>rfl⟩
 .rw[bY h2];refine iy (uQ (b:=false) (e:=170)) (next:=λ_ _=>?_);refine go ?_;exact gQ 170 ⟨(λh=>by cases h),λh=>absurd h.2 h2⟩
variable{bg:Nat}
def amY(hT:De d):aX prog (.func 300) [] [ptr' b,ptr' bg] [pt bg (.cells JX)] (tF b d vh vs vr vc vu) (λy:TC=>iV (cond y.ok 0 130))
 (λy=>[pt bg (.cells (cond y.ok (oz (EN d.shape d.w d.h d.holes) y.vh y.vc) JX))]) (zJ d.shape d.w d.h d.holes) (λy=>y.ok=true↔vO d.shape d.w d.h d.holes):=by
 refine gB 300 λB w0=>?_;refine gC (TD (s:=d.shape) (w:=d.w) (h:=d.h) (holes:=d.holes) (vh:=vh) hT.w hT.h hT.holes) λy hy=>?_;obtain⟨ok,v1,v2⟩:=y;cases ok with
 |false=>
  dsimp only[mkV,zJ,cond,List.nil_append]at hy⊢;refine go ?_;exact gQ ⟨false,v1,v2⟩ hy
 |true=>
  dsimp only[mkV,zJ,cond,tQ,EN,List.cons_append,List.nil_append]at hy⊢;refine go ?_;exact gQ ⟨true,v1,v2⟩ hy (hF:=by show Sub [aj ai v1 d.holes,aj ai v2 (uG d.w d.h d.holes)] _;exact .cons s7 (.cons s7 .nil))
def amZ(hS:uP d)(hG:zK g):aX prog (.func 301) [] [ptr' b,ptr' bg] [] (bW bg 0 (oz g gh gc)::aj ai gh g.holes::aj ai gc g.cells::tF b d vh vs vr vc vu) (λe:Int=>iV e) (λ_=>[]) (λ_=>[]) (λe=>e=0↔∀r∈d.regions,J5 g r):=by
 refine gB 301 λB w0=>?_;refine gC (amT (d:=d) (g:=g) (gh:=gh) (gc:=gc) hS hG) λe he=>?_;refine go ?_;exact gQ e he
def am0(hS:uP d):aX prog (.func 303) [] [ptr' b] [] (tF b d vh vs vr vc vu) (λe:Int=>iV e) (λ_=>[]) (λ_=>[]) (λe=>e=0↔TV d):=by
 refine gB 303 λB w0=>?_;refine gC (amP (d:=d) hS) λc hc=>?_;refine gC (uQ (b:=c) (e:=170)) λ_ _=>?_;refine go ?_;cases c with
 |false=>exact gQ 170 ⟨(λh=>by cases h),λh=>absurd (hc.2 h) s7⟩
 |true=>exact gQ 0 ⟨λ_=>hc.1 rfl,λ_=>rfl⟩
def am1(hS:uP d):aX prog (.func 305) [] [ptr' b] [] (tF b d vh vs vr vc vu) (λe:Int=>iV e) (λ_=>[]) (λ_=>[]) (λe=>e=0↔oV d.rules=[]):=by
 refine gB 305 λB w0=>?_;refine gC (amx (d:=d) hS.qZ) λv _=>?_;refine go ?_;by_cases h:oV d.rules=[]
 .rw[show decide (((oV d.rules).length:Int)=0)=true from eT (by rw[h];rfl)];refine iy (uQ (b:=true) (e:=171)) (next:=λ_ _=>?_);refine go ?_;exact gQ 0 ⟨λ_=>h,λ_=>rfl⟩
 .rw[show decide (((oV d.rules).length:Int)=0)=false from bY (λe=>h (j6.1 s6))];refine iy (uQ (b:=false) (e:=171)) (next:=λ_ _=>?_);refine go ?_;exact gQ 171 ⟨(λh=>by cases h),λe=>absurd e h⟩
def am2(hT:De d):fC prog 207 [.agg ⟨oM d vh vs vr vc vu⟩] (uF d vh vs vr vc vu) (λe:Int=>iV e) (λe=>e=0↔Oi d):=by
 have hS:=hT.s;refine gB 207 λB w0=>?_;refine go ?_;intro b1 b3 b14;refine gP b1 ?_;refine go ?_;refine oh ?_;refine gC (amV (b:=b1) (d:=d) hS) λe he=>?_;refine aO (λhne=>?_) (λhz=>?_)
 .refine go ?_;exact gQ e ⟨λh=>absurd h hne,λh=>absurd (he.2 h.lim) hne⟩
 have k1:=he.1 (kv.1 hz);clear hz he;refine go ?_;refine oh ?_;refine gC (amW (b:=b1) (d:=d) hS) λe he=>?_;refine aO (λhne=>?_) (λhz=>?_)
 .refine go ?_;exact gQ e ⟨λh=>absurd h hne,λh=>absurd (he.2 ⟨h.rs,h.same⟩) hne⟩
 have k2:=he.1 (kv.1 hz);clear hz he;refine go ?_;refine oh ?_;refine gC (amX (b:=b1) (d:=d)) λe he=>?_;refine aO (λhne=>?_) (λhz=>?_)
 .refine go ?_;exact gQ e ⟨λh=>absurd h hne,λh=>absurd (he.2 h.ver) hne⟩
 have k3:=he.1 (kv.1 hz);clear hz he;refine go ?_;refine oh ?_;refine gC (amY (b:=b1) (bg:=b3) (d:=d) hT) λy hy=>?_;obtain⟨ok,gh,gc⟩:=y;cases ok with
 |false=>
  dsimp only[cond,zJ,List.cons_append,List.nil_append]at hy⊢;refine go ?_;exact gQ 130 ⟨(λh=>by cases h),λh=>absurd (hy.2 h.Oj) s7⟩
 |true=>
 have hmk:=hy.1 rfl;have hG:=Ub hmk;dsimp only[cond,zJ];rw[show EN d.shape d.w d.h d.holes=bP d from rfl];dsimp only[tQ,List.cons_append,List.nil_append];refine gP b3 ?_;refine go ?_;refine oh ?_;refine gC (amZ (b:=b1) (bg:=b3) (d:=d) (g:=bP d) (gh:=gh) (gc:=gc) hS hG) λe he=>?_;refine aO (λhne=>?_) (λhz=>?_)
 .refine go ?_;exact gQ e ⟨λh=>absurd h hne,λh=>absurd (he.2 h.Dc) hne⟩
 have k5:=he.1 (kv.1 hz);clear hz he;refine go ?_;refine oh ?_;refine gC (am0 (b:=b1) (d:=d) hS) λe he=>?_;refine aO (λhne=>?_) (λhz=>?_)
 .refine go ?_;exact gQ e ⟨λh=>absurd h hne,λh=>absurd (he.2 h.form) hne⟩
 have k6:=he.1 (kv.1 hz);clear hz he;refine go ?_;refine oh ?_;refine gC (am1 (b:=b1) (d:=d) hS) λe he=>?_;refine aO (λhne=>?_) (λhz=>?_)
 .refine go ?_;exact gQ e ⟨λh=>absurd h hne,λh=>absurd (he.2 h.read) hne⟩
 have k7:=he.1 (kv.1 hz);clear hz he;refine go ?_;refine oh ?_;refine go ?_;exact gQ 0 ⟨λ_=>⟨k1,k2.1,k2.2,k3,hmk,k5,k6,k7⟩,λ_=>rfl⟩
