/- Part. -/
import Derived.Test.YtoilpafpgndilaaGreatLibFF
set_option linter.all false
set_option maxRecDepth 10000
set_option maxHeartbeats 4000000
namespace Go.Proofs.YtoilpafpgndilaaGreat
open Tryz (prog)
open Go.Ideal Kd
structure JP(d:bF):Prop where
 eH:∀s∈d.symbols,0<=s.value/\s.value<=99
 kX:∀r∈d.rules,wJ (fM r.kind) d.aJ r
 jg:∀(i:Nat) (c:gW),d.aJ[i]? =some c->(d.rules.map (·.adJ)).count (i:Int)=1/\qR c
variable{d:bF}{vh vs vr vc vu:vI}
def agw(hS:ng d):
 fC prog 304 [.agg ⟨ahE d vh vs vr vc vu⟩] [ai fF vs d.symbols,ai bI vc d.aJ,ai aY vu d.rules] (λb:Bool=>.bool b) (λb=>b=true↔JP d):=by
 have hsl:=hS.eH;have hcl:=hS.jg;have yc:=hS.kX;refine gB 304 λB w0=>?_;refine gF fF vs d.symbols λkY cs1 es=>?_;subst es;refine gF bI vc d.aJ λac cc ec=>?_;subst ec;refine gF aY vu d.rules λau cu eu=>?_;subst eu;refine go ?_;intro b1;refine gP b1 ?_;refine gN d.symbols.length 13 (λk=>k<=d.symbols.length/\∀s∈d.symbols.take k,0<=s.value/\s.value<=99) ⟨bR _,An⟩ ?_;rintro k ⟨hk,hall⟩;refine gIf ?_ ?_<;>intro h1
 .refine gX fF (xs:=d.symbols) λ_ _ s (_:Unit) hs=>?_;have hsm:=aZ hs;refine go ?_;intro b4;refine gH ?_ ?_<;>intro h2
  .refine gIf ?_ ?_<;>intro h3
   .exact fc
   .exact gR
  .exact fc
 have hks:k=d.symbols.length:=z7
 subst hks;rw[bU]at hall;refine go ?_;refine y8 jF (λbm=>?_);refine go ?_;refine aU (λk:Nat=>d.rules.length - k) (λk=>[(30,iV (k:Int))]) (λk=>[mpA jF bm (uV ((d.rules.take k).map (·.adJ)))]) (λ_=>[]) (λk=>k<=d.rules.length/\∀r∈d.rules.take k,wJ (fM r.kind) d.aJ r) 0 ⟨bR _,An⟩ (hk:=As) (body:=?_);rintro k ⟨hk,Bq⟩;have hcn:∀c:Int,((d.rules.take k).map (·.adJ)).count c<=4096:=λc=>by
  have:=Ux c ((d.rules.take k).map (·.adJ));rw[bY,gT]at this;omega
 refine gIf ?_ ?_<;>intro h1
 .refine gX aY (xs:=d.rules) λ_ _ r (vv:vI×vI) hr=>?_;have hrm:=aZ hr;have hrn:=hS.rY r hrm;refine go ?_;intro b7;refine gC (agv (d:=d) (r:=r) (v1:=vv.1) (v2:=vv.2) hcl hrn.1 hrn.2) λb hb=>?_;cases b with
  |false=>
   exact qT
  |true=>
   have hR:=hb.1 rfl;have hc1:=hcn r.adJ;have hst:uV ((d.rules.take (k+1)).map (·.adJ))=upd r.adJ (iV ((((d.rules.take k).map (·.adJ)).count r.adJ:Nat)+1)) (uV ((d.rules.take k).map (·.adJ))):=by
    rw[bZ hr,fP,sQ,Uv]
   refine go ?_;refine E9 (aX:=jF) (b:=bm) (aj:=uV ((d.rules.take k).map (·.adJ))) zw r.adJ ?_;rw[Uw];refine go ?_;refine xN (aX:=jF) (b:=bm) (v:=iV ((((d.rules.take k).map (·.adJ)).count r.adJ:Nat)+1)) (aj:=uV ((d.rules.take k).map (·.adJ))) zw r.adJ ?_;rw[<- hst];exact ia
 have hkr:k=d.rules.length:=z7
 subst hkr;rw[bU]at Bq hcn⊢;refine gN d.aJ.length 47 (λk=>k<=d.aJ.length/\∀(i:Nat) (c:gW),i<k->d.aJ[i]? =some c->(d.rules.map (·.adJ)).count (i:Int)=1/\qR c) ⟨bR _,λi c h=>by omega⟩ ?_;rintro k ⟨hk,FN⟩;refine gIf ?_ ?_<;>intro h1
 .refine gX bI (xs:=d.aJ) λ_ _ c (_:Unit) hc=>?_;have hck:=hcn (k:Int);refine go ?_;intro b9;refine go ?_;refine E9 (aX:=jF) (b:=bm) (aj:=uV (d.rules.map (·.adJ))) zw (k:Int) ?_;rw[Uw];refine gH ?_ ?_<;>intro h2
  .refine gC (agd (c:=c)) λ_ _=>?_;refine go ?_;refine fq rfl (λh3=>?_) (λh3=>?_)
   .refine go ?_;exact gQ false ⟨(λh=>by cases h),λh=>absurd (h.jg k c hc).2 h3⟩
   .refine go ?_;refine aN (k+1) D1 ⟨z7,λi x hi hx=>?_⟩;by_cases hik:i=k
    .subst hik;rw[hc]at hx;cases hx;exact⟨z7,h3⟩
    .exact FN i x z7 hx
  .exact qt
 have hkc:k=d.aJ.length:=z7
 subst hkc;refine go ?_;exact gQ true ⟨λ_=>⟨hall,Bq,λi c hc=>FN i c (bq.1 hc).1 hc⟩,λ_=>rfl⟩
noncomputable def abw:=uE prog 95
def aii:mO prog 95=some abw:=Ax
noncomputable def acy:=uE prog 127
def aij:mO prog 127=some acy:=Ax
noncomputable def acL:=uE prog 96
def aik:mO prog 96=some acL:=Ax
variable{v:vI}{xs:kI Int}
def agx:bA prog (.func 95) [v] [] [] [ai ae v xs] (λb:Nat=>.func (.func 127) #[] #[ptr' b]) (λ_=>[]) (λb=>[gY b 0 [v]]) (λ_=>True):=by
 refine aM abw aii λB w0=>?_;refine gF ae v xs λa c e=>?_;subst e;refine go ?_;intro b1;refine go ?_;refine gP b1 ?_;exact gQ b1 trivial
variable{b:Nat}
def agy(hl:xs.length<2^63):y9 prog (λx:Int=>[jF x]) (.func 127) [] [ptr' b] [gY b 0 [v],ai ae v xs] (λys=>ys=xs):=by
 intro S inv ok step s0 Fb y1 y2 F' h0 hok hy;rw[fV,fV,dY];refine aM acy aij λB w0=>?_;refine go ?_;refine aU (λy:Nat×S=>xs.length - y.1) (λy=>[(7,iV (y.1:Int))]) (λy=>inv y.2) (λ_=>[]) (λy=>y.1<=xs.length/\ok (xs.take y.1) y.2/\mD step y.2 (xs.drop y.1)=mD step s0 xs) (0,s0) ⟨bR _,h0,rfl⟩ (body:=?_);rintro⟨k,s⟩ ⟨hk,hos,hrun⟩;dsimp only at hk hos hrun⊢;refine gIf ?_ ?_<;>intro h1
 .refine go ?_;intro _ _ x hx;have hd:xs.drop k=x::xs.drop (k+1):=by
   exact tf
  have hX:xs.take k++x::xs.drop (k+1)=xs:=by rw[<- hd,uq]
  have Bi:=hy _ s _ _ hos hX;rw[hd,mD]at hrun;refine gC Bi λ_ _=>?_;cases hst:(step s x).2 with
  |true=>
   have hs1:step s x=((step s x).1,true):=Prod.ext rfl hst;rw[hs1]at hrun;refine go ?_;refine aN (k+1,(step s x).1) D3 ⟨by show k+1<=_;omega,?_,hrun⟩;exact tI
  |false=>
   exact lA
 have hke:k=xs.length:=z7
 subst hke;rw[alV]at hrun;refine go ?_;exact gQ xs rfl (hk:=GF)
abbrev OC(P:Program)(fn:Fn)(first cap:kI vI)(F:kI aO)(p:kI Int->Bool)(x:kI Int):Prop:=
 ∀v:vI,bA P fn (first++[v]) cap [] (ai ae v x::F) (λ_:Unit=>.bool (p x)) (λ_=>[]) (λ_=>[]) (λ_=>True)
variable{va:vI}{fn:Fn}{first cap:kI vI}{F1:kI aO}{p:kI Int->Bool}
def agz{xs:kI (kI Int)}(hl:xs.length<2^63)(hp:∀x∈xs,OC prog fn first cap F1 p x):
 bA prog (.func 96) [va,.func fn ⟨first⟩ ⟨cap⟩] [] [ap (ak ae) va xs] F1 (λr:Int=>iV r) (λ_=>[ap (ak ae) va xs]) (λ_=>[]) (λr=>(0<=r↔xs.any p=true)):=by
 refine aM acL aik λB w0=>?_;refine pO (E:=ak ae) (v:=va) (xs:=xs) λa hv=>?_;subst hv;refine gN xs.length 8 (λk=>k<=xs.length/\(xs.take k).any p=false) ⟨z7,An⟩ ?_;rintro k ⟨hk,hno⟩;refine gIf ?_ ?_<;>intro h1
 .have hx:xs[k]? =some (xs[k]'(z7)):=bP _;generalize xs[k]'(z7)=x at hx;refine go ?_;refine I6 ae (v:=.slice a xs.length xs.length) (xss:=xs) k x hx (next:=λb o u=>?_);refine gC (hp x (aZ hx) u) λ_ _=>?_;refine go ?_;refine kw rfl (λh2=>?_) (λh2=>?_)
  .refine go ?_;exact gQ (k:Int) ⟨λ_=>List.any_eq_true.2 ⟨x,aZ hx,h2⟩,λ_=>by omega⟩
  .refine go ?_;refine aN (k+1) z7 ⟨z7,?_⟩;rw[bZ hx,amP,hno];simp[h2]
 refine go ?_;have:k=xs.length:=z7
 subst this;rw[bU]at hno;exact gQ (-1) ⟨λh=>by omega,λh=>by rw[hno]at h;cases h⟩
def agA{xs:kI (kI Int)}(hl:xs.length<2^63)(hp:∀x∈xs,OC prog fn first cap F1 p x):
 bA prog (.func 56) [va,.func fn ⟨first⟩ ⟨cap⟩] [] [ap (ak ae) va xs] F1 (λ_:Unit=>.bool (xs.any p)) (λ_=>[ap (ak ae) va xs]) (λ_=>[]) (λ_=>True):=by
 refine gB 56 λB w0=>?_;refine gC (agz hl hp) λr hr=>?_;refine acM ?_;have:xs.any p=decide (0<=r):=by rw[zP,lM];exact hr.symm
 rw[this];rfl
def agB{vx:vI}{zs:kI Int}(hl:zs.length<2^63)(ys:kI Int):OC prog (.func 342) [] [ptr' b] [gY b 0 [vx],ai ae vx zs] (λy=>decide (zs=y)) ys:=by
 intro v;rw[dY];refine gB 342 λB w0=>?_;refine gC (Bf (xs:=zs) (ys:=ys) hl) λ_ _=>?_;exact afN
def zy(g:bz)(r:mV):Prop:=(fE g/\CZ g r.lists)/\(r.lists.map bW).Nodup
variable{gh gc:vI}{g:bz}
def agC(hS:ng d)(hG:qP g):
 fC prog 302 [.agg ⟨ahE d vh vs vr vc vu⟩,.agg ⟨iO g gh gc⟩] (ai eY vr d.regions::jq g gh gc) (λe:Int=>iV e) (λe=>e=0↔∀r∈d.regions,zy g r):=by
 have hrl:=hS.regs;refine gB 302 λB w0=>?_;refine gF eY vr d.regions λar cr er=>?_;subst er;refine go ?_;intro b2 b3;refine gP b2 ?_;refine gP b3 ?_;refine gN d.regions.length 16 (λk=>k<=d.regions.length/\∀r∈d.regions.take k,zy g r) ⟨bR _,An⟩ ?_;rintro k ⟨hk,hall⟩;refine gIf ?_ ?_<;>intro h1
 .refine gX eY (xs:=d.regions) λ_ _ r (vl:vI) hr=>?_;have hrm:=aZ hr;obtain⟨hl1,hl2⟩:=hS.rZ r hrm;refine go ?_;intro b6;refine gC (VV (g:=g) (rs:=r.lists) hG hl1 hl2) λy hy=>?_;obtain⟨v7,e⟩:=y;dsimp only at hy⊢;refine gIf ?_ ?_<;>intro h2
  .refine go ?_;exact gQ e ⟨(λh=>absurd h h2),λh=>absurd (hy.2 (h r hrm).1) h2⟩
  have he:e=0:=ic.1 h2;obtain⟨hg,hro⟩:=hy.1 he;have hgl:=hg.len;have hrl2:=hro.len;refine gF (ak ae) vl r.lists λal cl el=>?_;subst el;refine go ?_;refine af5 (ak ae) ?_;refine aU (λy:Nat×vI=>r.lists.length - y.1) (λy=>[(33,iV (y.1:Int)),(9,y.2)]) (λy=>[ap (ak ae) y.2 ((r.lists.take y.1).map bW)]) (λ_=>[]) (λy=>y.1<=r.lists.length/\((r.lists.take y.1).map bW).Nodup) (0,.slice none 0 0) ⟨bR _,An⟩ (hk:=As) (body:=?_);rintro⟨j,v9⟩ ⟨hj,hnd⟩;dsimp only at hj hnd⊢;have hjl:((r.lists.take j).map bW).length=j:=GP
  refine gIf ?_ ?_<;>intro h3
  .refine gX (ak ae) (xs:=r.lists) λ_ _ ps (vp:vI) hps=>?_;have hpm:=aZ hps;have hP:=hro.all ps hpm;have hpl:ps.length<=256:=by have:=Jl hP.mem hP.nd;omega
   refine gC (agx (v:=vp) (xs:=ps)) λbv _=>?_;refine gC (VT (agy (b:=bv) (v:=vp) (xs:=ps) z7) (λys h=>by rw[h];omega)) λy hy2=>?_;obtain⟨v39,zs⟩:=y;dsimp only[List.cons_append,List.nil_append]at hy2⊢;subst hy2;have hzl:=AV zs;refine gZ (gz (E:=ae) (v:=v39) (xs:=bW zs)) ?_;refine gF ae v39 (bW zs) λa39 OD e39=>?_;subst e39;refine go ?_;intro b12;refine gP b12 ?_;refine gC (agA (fn:=.func 342) (first:=[]) (cap:=[ptr' b12]) (F1:=[gY b12 0 [.slice a39 (bW zs).length OD],ai ae (.slice a39 (bW zs).length OD) (bW zs)]) (p:=λy=>decide (bW zs=y)) (va:=v9) (xs:=(r.lists.take j).map bW) z7 (λx _=>agB z7 x)) λ_ _=>?_;have htk:(r.lists.take (j+1)).map bW=(r.lists.take j).map bW++[bW zs]:=by rw[bZ hps,fP,sQ]
   refine go ?_;refine kw rfl (λh4=>?_) (λh4=>?_)
   .refine go ?_;refine gQ 161 ⟨(λh=>by cases h),λh=>?_⟩
    exfalso
    have h5:=(h r hrm).2;have h6:((r.lists.take (j+1)).map bW).Nodup:=h5.sublist ((PX _ _).map _);rw[htk,iT]at h6;obtain⟨x,hx,hx2⟩:=List.any_eq_true.1 h4;exact h6.2.2 x hx _ (bM.2 rfl) (iI hx2).symm
   .refine go ?_;intro b45;refine go ?_;refine fB (xs:=(r.lists.take j).map bW) (ak ae) (bW zs) (.slice a39 (bW zs).length OD) z7 (next:=λad=>?_);rw[<- htk];refine go ?_;refine aN (j+1,.slice ad (((r.lists.take j).map bW).length+1) (((r.lists.take j).map bW).length+1)) (by show r.lists.length - (j+1)<r.lists.length - j;omega) ⟨by show j+1<=_;omega,?_⟩;show((r.lists.take (j+1)).map bW).Nodup;rw[htk,iT];refine⟨hnd,An,λa ha b hb e=>?_⟩;rw[bM.1 hb]at e;subst e;rw[List.any_eq_false]at h4;exact h4 _ ha (dK rfl)
  have iR:j=r.lists.length:=z7
  subst iR;rw[bU]at hnd;refine go ?_;refine aN (k+1) GW ⟨z7,?_⟩;rw[bZ hr];intro x hx;rcases dX.1 hx with hx|hx
  .exact hall x hx
  .rw[bM.1 hx];exact⟨⟨hg,hro⟩,hnd⟩
 have hke:k=d.regions.length:=z7
 subst hke;rw[bU]at hall;refine go ?_;exact gQ 0 ⟨λ_=>hall,λ_=>rfl⟩
structure VY(d:bF):Prop where
 s0:0<d.symbols.length
 s1:d.symbols.length<=16
 r:d.regions.length<=4
 c:d.aJ.length<=4
 u:d.rules.length<=16
structure FO(d:bF):Prop where
 lim:VY d
 rs:CU d
 same:Kd.bE d=d
 OE:1<=d.version/\d.version<=255
 Dk:oH d.shape d.w d.h d.holes
 Dl:∀r∈d.regions,zy (aT d) r
 form:JP d
 read:jk d.rules=[]
structure vC(d:bF):Prop where
 s:ng d
 w:kD d.w
 h:kD d.h
 holes:d.holes.length<4611686018427387904
def FP(hm:oH d.shape d.w d.h d.holes):qP (aT d):=by
 have hb:=xQ hm.wi hm.he;have h1:=hm.wi;have h2:=hm.he;have h3:=hm.len;have h4:=CW (d.w*d.h).toNat d.holes;refine⟨?_,?_,?_,?_⟩
 .show kD d.w;unfold kD;omega
 .show kD d.h;unfold kD;omega
 .show d.holes.length<_;omega
 .show(mX d.w d.h d.holes).length<_;unfold mX;omega
abbrev tF(b:Nat)(d:bF)(vh vs vr vc vu:vI):kI aO:=gY b 0 (ahE d vh vs vr vc vu)::lG d vh vs vr vc vu
def agD(hS:ng d):bA prog (.func 296) [] [ptr' b] [] (tF b d vh vs vr vc vu) (λe:Int=>iV e) (λ_=>[]) (λ_=>[]) (λe=>e=0↔VY d):=by
 have hsl:=hS.eH;have hrl:=hS.regs;have hcl:=hS.jg;have yc:=hS.kX;refine gB 296 λB w0=>?_;refine gH ?_ ?_<;>intro h1
 .refine gC (qQ (b:=false) (e:=2)) λ_ _=>?_;refine go ?_;refine gQ _ ⟨λh=>?_,λh=>?_⟩
  .cases h
  .exact absurd h.s0 z7
 refine gH ?_ ?_<;>intro h2
 .refine gC (qQ (b:=false) (e:=2)) λ_ _=>?_;refine go ?_;refine gQ _ ⟨λh=>?_,λh=>?_⟩
  .cases h
  .exact absurd h.s1 z7
 refine gH ?_ ?_<;>intro h3
 .refine gC (qQ (b:=false) (e:=2)) λ_ _=>?_;refine go ?_;refine gQ _ ⟨λh=>?_,λh=>?_⟩
  .cases h
  .exact absurd h.r z7
 refine gH ?_ ?_<;>intro h4
 .refine gC (qQ (b:=false) (e:=2)) λ_ _=>?_;refine go ?_;refine gQ _ ⟨λh=>?_,λh=>?_⟩
  .cases h
  .exact absurd h.c z7
 refine go ?_;by_cases h5:d.rules.length<=16
 .rw[show decide ((d.rules.length:Int)<=16)=true from dK z7];refine ay (qQ (b:=true) (e:=2)) (next:=λ_ _=>?_);refine go ?_;refine gQ _ ⟨λh=>?_,λh=>?_⟩
  .exact⟨z7,z7,z7,z7,h5⟩
  .rfl
 .rw[show decide ((d.rules.length:Int)<=16)=false from aR z7];refine ay (qQ (b:=false) (e:=2)) (next:=λ_ _=>?_);refine go ?_;refine gQ _ ⟨λh=>?_,λh=>?_⟩
  .cases h
  .exact absurd h.u h5
def ng.bE(hS:ng d):ng (Kd.bE d):=by
 refine⟨hS.eH,hS.regs,?_,?_,?_,hS.holes,hS.rZ⟩
 .show(d.aJ.map _).length<=_;rw[bY];exact hS.jg
 .show(d.rules.map _).length<=_;rw[bY];exact hS.kX
 .intro r hr;obtain⟨q,hq,rfl⟩:=eT.1 (show r∈d.rules.map _ from hr);exact hS.rY q hq
def agE(hS:ng d):bA prog (.func 298) [] [ptr' b] [] (tF b d vh vs vr vc vu) (λe:Int=>iV e) (λ_=>[]) (λ_=>[]) (λe=>e=0↔CU d/\Kd.bE d=d):=by
 refine gB 298 λB w0=>?_;refine gC (Vy (d:=d) hS) λy hy=>?_;obtain⟨ok,e,v1,v2⟩:=y;dsimp only[rX,oL,Bg]at hy⊢;cases ok with
 |false=>
  obtain⟨he,hno⟩:=hy.2 rfl;dsimp only[cond];refine go ?_;intro b2;refine gIf ?_ ?_<;>intro h1
  .refine go ?_;exact gQ e ⟨λh=>absurd h he,λh=>absurd h.1 hno⟩
  .exact absurd (ic.1 h1) he
 |true=>
  obtain⟨he,hres⟩:=hy.1 rfl;subst he;dsimp only[cond,List.cons_append,List.nil_append];refine go ?_;intro b2;refine go ?_;have hsy:dD prog 142 [.agg ⟨ahE (Kd.bE d) vh vs vr v1 v2⟩,.agg ⟨ahE d vh vs vr vc vu⟩] [ai ae vh d.holes,ai fF vs d.symbols,ai eY vr d.regions,ai bI v1 (Kd.bE d).aJ,ai aY v2 (Kd.bE d).rules,ai bI vc d.aJ,ai aY vu d.rules] (.bool (decide (Kd.bE d=d))):=
   (VD (x:=Kd.bE d) (y:=d) (h1:=vh) (s1:=vs) (r1:=vr) (c1:=v1) (u1:=v2) (h2:=vh) (s2:=vs) (r2:=vr) (c2:=vc) (u2:=vu) hS.bE).facts (λf hf=>by
     simp only[lG,fV,dY,dx,Kj,or_false]at hf⊢;rcases hf with rfl|rfl|rfl|rfl|rfl|rfl|rfl|rfl|rfl|rfl
     .exact .inl rfl
     .exact .inr (.inl rfl)
     .exact .inr (.inr (.inl rfl))
     .simp
     .simp
     .exact .inl rfl
     .exact .inr (.inl rfl)
     .exact .inr (.inr (.inl rfl))
     .simp
     .simp)
  refine ay hsy (next:=λ_ _=>?_);refine go ?_;by_cases hr:Kd.bE d=d
  .rw[dK hr];refine ay (qQ (b:=true) (e:=170)) (next:=λ_ _=>?_);refine go ?_;exact gQ 0 ⟨λ_=>⟨hres,hr⟩,λ_=>rfl⟩
  .rw[aR hr];refine ay (qQ (b:=false) (e:=170)) (next:=λ_ _=>?_);refine go ?_;exact gQ 170 ⟨(λh=>by cases h),λh=>absurd h.2 hr⟩
def agF:bA prog (.func 299) [] [ptr' b] [] (tF b d vh vs vr vc vu) (λe:Int=>iV e) (λ_=>[]) (λ_=>[]) (λe=>e=0↔(1<=d.version/\d.version<=255)):=by
 refine gB 299 λB w0=>?_;refine gH ?_ ?_<;>intro h1
 .refine gC (qQ (b:=false) (e:=170)) λ_ _=>?_;refine go ?_;exact gQ 170 ⟨(λh=>by cases h),λh=>by exfalso;omega⟩
 refine go ?_;by_cases h2:d.version<=255
 .rw[dK h2];refine ay (qQ (b:=true) (e:=170)) (next:=λ_ _=>?_);refine go ?_;exact gQ 0 ⟨λ_=>⟨z7,h2⟩,λ_=>rfl⟩
 .rw[aR h2];refine ay (qQ (b:=false) (e:=170)) (next:=λ_ _=>?_);refine go ?_;exact gQ 170 ⟨(λh=>by cases h),λh=>absurd h.2 h2⟩
variable{bg:Nat}
def agG(hT:vC d):bA prog (.func 300) [] [ptr' b,ptr' bg] [pt bg (.cells FH)] (tF b d vh vs vr vc vu) (λy:Ol=>iV (cond y.ok 0 130))
 (λy=>[pt bg (.cells (cond y.ok (iO (wH d.shape d.w d.h d.holes) y.vh y.vc) FH))]) (pM d.shape d.w d.h d.holes) (λy=>y.ok=true↔oH d.shape d.w d.h d.holes):=by
 refine gB 300 λB w0=>?_;refine gC (Om (s:=d.shape) (w:=d.w) (h:=d.h) (holes:=d.holes) (vh:=vh) hT.w hT.h hT.holes) λy hy=>?_;obtain⟨ok,v1,v2⟩:=y;cases ok with
 |false=>
  dsimp only[mkV,pM,cond,List.nil_append]at hy⊢;refine go ?_;exact gQ ⟨false,v1,v2⟩ hy
 |true=>
  dsimp only[mkV,pM,cond,jq,wH,List.cons_append,List.nil_append]at hy⊢;refine go ?_;exact gQ ⟨true,v1,v2⟩ hy (hF:=by show Sub [ai ae v1 d.holes,ai ae v2 (mX d.w d.h d.holes)] _;exact .cons An (.cons An .nil))
def agH(hS:ng d)(hG:qP g):bA prog (.func 301) [] [ptr' b,ptr' bg] [] (gY bg 0 (iO g gh gc)::ai ae gh g.holes::ai ae gc g.cells::tF b d vh vs vr vc vu) (λe:Int=>iV e) (λ_=>[]) (λ_=>[]) (λe=>e=0↔∀r∈d.regions,zy g r):=by
 refine gB 301 λB w0=>?_;refine gC (agC (d:=d) (g:=g) (gh:=gh) (gc:=gc) hS hG) λe he=>?_;refine go ?_;exact gQ e he
def agI(hS:ng d):bA prog (.func 303) [] [ptr' b] [] (tF b d vh vs vr vc vu) (λe:Int=>iV e) (λ_=>[]) (λ_=>[]) (λe=>e=0↔JP d):=by
 refine gB 303 λB w0=>?_;refine gC (agw (d:=d) hS) λc hc=>?_;refine gC (qQ (b:=c) (e:=170)) λ_ _=>?_;refine go ?_;cases c with
 |false=>exact gQ 170 ⟨(λh=>by cases h),λh=>absurd (hc.2 h) An⟩
 |true=>exact gQ 0 ⟨λ_=>hc.1 rfl,λ_=>rfl⟩
def agJ(hS:ng d):bA prog (.func 305) [] [ptr' b] [] (tF b d vh vs vr vc vu) (λe:Int=>iV e) (λ_=>[]) (λ_=>[]) (λe=>e=0↔jk d.rules=[]):=by
 refine gB 305 λB w0=>?_;refine gC (agc (d:=d) hS.kX) λv _=>?_;refine go ?_;by_cases h:jk d.rules=[]
 .rw[show decide (((jk d.rules).length:Int)=0)=true from dK (by rw[h];rfl)];refine ay (qQ (b:=true) (e:=171)) (next:=λ_ _=>?_);refine go ?_;exact gQ 0 ⟨λ_=>h,λ_=>rfl⟩
 .rw[show decide (((jk d.rules).length:Int)=0)=false from aR (λe=>h (jy.1 z7))];refine ay (qQ (b:=false) (e:=171)) (next:=λ_ _=>?_);refine go ?_;exact gQ 171 ⟨(λh=>by cases h),λe=>absurd e h⟩
def agK(hT:vC d):fC prog 207 [.agg ⟨ahE d vh vs vr vc vu⟩] (lG d vh vs vr vc vu) (λe:Int=>iV e) (λe=>e=0↔FO d):=by
 have hS:=hT.s;refine gB 207 λB w0=>?_;refine go ?_;intro b1 b3 b14;refine gP b1 ?_;refine go ?_;refine mR ?_;refine gC (agD (b:=b1) (d:=d) hS) λe he=>?_;refine gIf (λhne=>?_) (λhz=>?_)
 .refine go ?_;exact gQ e ⟨λh=>absurd h hne,λh=>absurd (he.2 h.lim) hne⟩
 have k1:=he.1 (ic.1 hz);clear hz he;refine go ?_;refine mR ?_;refine gC (agE (b:=b1) (d:=d) hS) λe he=>?_;refine gIf (λhne=>?_) (λhz=>?_)
 .refine go ?_;exact gQ e ⟨λh=>absurd h hne,λh=>absurd (he.2 ⟨h.rs,h.same⟩) hne⟩
 have k2:=he.1 (ic.1 hz);clear hz he;refine go ?_;refine mR ?_;refine gC (agF (b:=b1) (d:=d)) λe he=>?_;refine gIf (λhne=>?_) (λhz=>?_)
 .refine go ?_;exact gQ e ⟨λh=>absurd h hne,λh=>absurd (he.2 h.OE) hne⟩
 have k3:=he.1 (ic.1 hz);clear hz he;refine go ?_;refine mR ?_;refine gC (agG (b:=b1) (bg:=b3) (d:=d) hT) λy hy=>?_;obtain⟨ok,gh,gc⟩:=y;cases ok with
 |false=>
  dsimp only[cond,pM,List.cons_append,List.nil_append]at hy⊢;refine go ?_;exact gQ 130 ⟨(λh=>by cases h),λh=>absurd (hy.2 h.Dk) An⟩
 |true=>
 have hmk:=hy.1 rfl;have hG:=FP hmk;dsimp only[cond,pM];rw[show wH d.shape d.w d.h d.holes=aT d from rfl];dsimp only[jq,List.cons_append,List.nil_append];refine gP b3 ?_;refine go ?_;refine mR ?_;refine gC (agH (b:=b1) (bg:=b3) (d:=d) (g:=aT d) (gh:=gh) (gc:=gc) hS hG) λe he=>?_;refine gIf (λhne=>?_) (λhz=>?_)
 .refine go ?_;exact gQ e ⟨λh=>absurd h hne,λh=>absurd (he.2 h.Dl) hne⟩
 have k5:=he.1 (ic.1 hz);clear hz he;refine go ?_;refine mR ?_;refine gC (agI (b:=b1) (d:=d) hS) λe he=>?_;refine gIf (λhne=>?_) (λhz=>?_)
 .refine go ?_;exact gQ e ⟨λh=>absurd h hne,λh=>absurd (he.2 h.form) hne⟩
 have k6:=he.1 (ic.1 hz);clear hz he;refine go ?_;refine mR ?_;refine gC (agJ (b:=b1) (d:=d) hS) λe he=>?_;refine gIf (λhne=>?_) (λhz=>?_)
 .refine go ?_;exact gQ e ⟨λh=>absurd h hne,λh=>absurd (he.2 h.read) hne⟩
 have k7:=he.1 (ic.1 hz);clear hz he;refine go ?_;refine mR ?_;refine go ?_;exact gQ 0 ⟨λ_=>⟨k1,k2.1,k2.2,k3,hmk,k5,k6,k7⟩,λ_=>rfl⟩
