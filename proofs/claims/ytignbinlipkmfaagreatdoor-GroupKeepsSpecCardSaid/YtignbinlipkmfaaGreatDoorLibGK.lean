/- Part. -/
import Derived.Test.YtignbinlipkmfaaGreatDoorLibFK
set_option linter.all false
set_option maxRecDepth 10000
set_option maxHeartbeats 4000000
namespace Go.Proofs.YtignbinlipkmfaaGreatDoor
open Tryz (prog)
open Go.Ideal Kd
structure Lb(d:bG):Prop where
 dG:∀s∈d.symbols,0<=s.value/\s.value<=99
 l7:∀r∈d.rules,wM (gy r.kind) d.aR r
 kD:∀(i:Nat) (c:jo),d.aR[i]? =some c->(d.rules.map (·.aX)).count (i:Int)=1/\qg c
variable{d:bG}{vh vs vr vc vu:ah}
def ajy(hS:nW d):
 fC prog 170 [.agg ⟨gW d vh vs vr vc vu⟩] [aj eT vs d.symbols,aj bV vc d.aR,aj bz vu d.rules] (λb:Bool=>.bool b) (λb=>b=true↔Lb d):=by
 have hsl:=hS.dG;have hcl:=hS.kD;have xO:=hS.l7;refine gB 170 λB w0=>?_;refine gF eT vs d.symbols λpg cs1 es=>?_;subst es;refine gF bV vc d.aR λac cc ec=>?_;subst ec;refine gF bz vu d.rules λau cu eu=>?_;subst eu;refine go ?_;intro b1;refine gP b1 ?_;refine gN d.symbols.length 13 (λk=>k<=d.symbols.length/\∀s∈d.symbols.take k,0<=s.value/\s.value<=99) ⟨bP _,tt⟩ ?_;rintro k ⟨hk,hall⟩;refine aB ?_ ?_<;>intro h1
 .refine gX eT (xs:=d.symbols) λ_ _ s (_:Unit) hs=>?_;have hsm:=aS hs;refine go ?_;intro b4;refine gH ?_ ?_<;>intro h2
  .refine aB ?_ ?_<;>intro h3
   .exact dl
   .exact eW
  .exact dl
 have hks:k=d.symbols.length:=tr
 subst hks;rw[bM]at hall;refine go ?_;refine Ac j6 (λbm=>?_);refine go ?_;refine dX (λk:Nat=>d.rules.length - k) (λk=>[(30,iV (k:Int))]) (λk=>[iG j6 bm (wH ((d.rules.take k).map (·.aX)))]) (λ_=>[]) (λk=>k<=d.rules.length/\∀r∈d.rules.take k,wM (gy r.kind) d.aR r) 0 ⟨bP _,tt⟩ (hk:=tx) (body:=?_);rintro k ⟨hk,Ci⟩;have hcn:∀c:Int,((d.rules.take k).map (·.aX)).count c<=4096:=λc=>by
  have:=Wp c ((d.rules.take k).map (·.aX));rw[bZ,iY]at this;omega
 refine aB ?_ ?_<;>intro h1
 .refine gX bz (xs:=d.rules) λ_ _ r (vv:ah×ah) hr=>?_;have hrm:=aS hr;have hrn:=hS.tT r hrm;refine go ?_;intro b7;refine gC (ajx (d:=d) (r:=r) (v1:=vv.1) (v2:=vv.2) hcl hrn.1 hrn.2) λb hb=>?_;cases b with
  |false=>
   exact nw
  |true=>
   have hR:=hb.1 rfl;have hc1:=hcn r.aX;have hst:wH ((d.rules.take (k+1)).map (·.aX))=upd r.aX (iV ((((d.rules.take k).map (·.aX)).count r.aX:Nat)+1)) (wH ((d.rules.take k).map (·.aX))):=by
    rw[cB hr,fG,sN,Wn]
   refine go ?_;refine Ga (bq:=j6) (b:=bm) (az:=wH ((d.rules.take k).map (·.aX))) Aq r.aX ?_;rw[Wo];refine go ?_;refine yQ (bq:=j6) (b:=bm) (v:=iV ((((d.rules.take k).map (·.aX)).count r.aX:Nat)+1)) (az:=wH ((d.rules.take k).map (·.aX))) Aq r.aX ?_;rw[<- hst];exact fa
 have hkr:k=d.rules.length:=tr
 subst hkr;rw[bM]at Ci hcn⊢;refine gN d.aR.length 47 (λk=>k<=d.aR.length/\∀(i:Nat) (c:jo),i<k->d.aR[i]? =some c->(d.rules.map (·.aX)).count (i:Int)=1/\qg c) ⟨bP _,λi c h=>by omega⟩ ?_;rintro k ⟨hk,GQ⟩;refine aB ?_ ?_<;>intro h1
 .refine gX bV (xs:=d.aR) λ_ _ c (_:Unit) hc=>?_;have hck:=hcn (k:Int);refine go ?_;intro b9;refine go ?_;refine Ga (bq:=j6) (b:=bm) (az:=wH (d.rules.map (·.aX))) Aq (k:Int) ?_;rw[Wo];refine gH ?_ ?_<;>intro h2
  .refine gC (aji (c:=c)) λ_ _=>?_;refine go ?_;refine fu rfl (λh3=>?_) (λh3=>?_)
   .refine go ?_;exact gQ false ⟨(λh=>by cases h),λh=>absurd (h.kD k c hc).2 h3⟩
   .refine go ?_;refine aQ (k+1) AD ⟨tr,λi x hi hx=>?_⟩;by_cases hik:i=k
    .subst hik;rw[hc]at hx;cases hx;exact⟨tr,h3⟩
    .exact GQ i x tr hx
  .exact nn
 have hkc:k=d.aR.length:=tr
 subst hkc;refine go ?_;exact gQ true ⟨λ_=>⟨hall,Ci,λi c hc=>GQ i c (bC.1 hc).1 hc⟩,λ_=>rfl⟩
noncomputable def XN:=oQ prog 232
def ajz:lD prog 232=some XN:=tv
noncomputable def XO:=oQ prog 281
def ajA:lD prog 281=some XO:=tv
noncomputable def Qp:=oQ prog 72
def XP:lD prog 72=some Qp:=tv
variable{v:ah}{xs:ae Int}
def ajB:cK prog (.func 232) [v] [] [] [aj ai v xs] (λb:Nat=>.func (.func 281) #[] #[ptr' b]) (λ_=>[]) (λb=>[eZ b 0 [v]]) (λ_=>True):=by
 refine jH XN ajz λB w0=>?_;refine gF ai v xs λa c e=>?_;subst e;refine go ?_;intro b1;refine go ?_;refine gP b1 ?_;exact gQ b1 trivial
variable{b:Nat}
def ajC(hl:xs.length<2^63):uQ prog (λx:Int=>[j6 x]) (.func 281) [] [ptr' b] [eZ b 0 [v],aj ai v xs] (λys=>ys=xs):=by
 intro S inv ok step s0 DJ y1 y2 F' h0 hok hy;rw[fK,fK,dU];refine jH XO ajA λB w0=>?_;refine go ?_;refine dX (λy:Nat×S=>xs.length - y.1) (λy=>[(7,iV (y.1:Int))]) (λy=>inv y.2) (λ_=>[]) (λy=>y.1<=xs.length/\ok (xs.take y.1) y.2/\kK step y.2 (xs.drop y.1)=kK step s0 xs) (0,s0) ⟨bP _,h0,rfl⟩ (body:=?_);rintro⟨k,s⟩ ⟨hk,hos,hrun⟩;dsimp only at hk hos hrun⊢;refine aB ?_ ?_<;>intro h1
 .refine go ?_;intro _ _ x hx;have hd:xs.drop k=x::xs.drop (k+1):=by
   rw[x8 tr];congr 1;rw[bX tr]at hx;exact Option.some.inj hx
  have hX:xs.take k++x::xs.drop (k+1)=xs:=by rw[<- hd,xX]
  have zb:=hy _ s _ _ hos hX;rw[hd,kK]at hrun;refine gC zb λ_ _=>?_;cases hst:(step s x).2 with
  |true=>
   have hs1:step s x=((step s x).1,true):=Prod.ext rfl hst;rw[hs1]at hrun;refine go ?_;refine aQ (k+1,(step s x).1) CC ⟨by show k+1<=_;omega,?_,hrun⟩;show ok (xs.take (k+1)) _;rw[cB hx];exact hok _ s _ _ hos hX hst
  |false=>
   have hs1:step s x=((step s x).1,false):=Prod.ext rfl hst;rw[hs1]at hrun;dsimp only at hrun;exact qk
 have hke:k=xs.length:=tr
 subst hke;rw[List.drop_length]at hrun;exact qk
abbrev Cj(P:Program)(fn:Fn)(first cap:ae ah)(F:ae aP)(p:ae Int->Bool)(x:ae Int):Prop:=
 ∀v:ah,cK P fn (first++[v]) cap [] (aj ai v x::F) (λ_:Unit=>.bool (p x)) (λ_=>[]) (λ_=>[]) (λ_=>True)
variable{va:ah}{fn:Fn}{first cap:ae ah}{F1:ae aP}{p:ae Int->Bool}
def ajD{xs:ae (ae Int)}(hl:xs.length<2^63)(hp:∀x∈xs,Cj prog fn first cap F1 p x):
 cK prog (.func 72) [va,.func fn ⟨first⟩ ⟨cap⟩] [] [ap (aA ai) va xs] F1 (λr:Int=>iV r) (λ_=>[ap (aA ai) va xs]) (λ_=>[]) (λr=>(0<=r↔xs.any p=true)):=by
 refine jH Qp XP λB w0=>?_;refine qR (E:=aA ai) (v:=va) (xs:=xs) λa hv=>?_;subst hv;refine gN xs.length 8 (λk=>k<=xs.length/\(xs.take k).any p=false) ⟨tr,tt⟩ ?_;rintro k ⟨hk,hno⟩;refine aB ?_ ?_<;>intro h1
 .have hx:xs[k]? =some (xs[k]'(tr)):=bX _;generalize xs[k]'(tr)=x at hx;refine go ?_;refine Ka ai (v:=.slice a xs.length xs.length) (xss:=xs) k x hx (next:=λb o u=>?_);refine gC (hp x (aS hx) u) λ_ _=>?_;refine go ?_;refine jS rfl (λh2=>?_) (λh2=>?_)
  .refine go ?_;exact gQ (k:Int) ⟨λ_=>MG.2 ⟨x,aS hx,h2⟩,λ_=>by omega⟩
  .refine go ?_;refine aQ (k+1) tr ⟨tr,?_⟩;rw[cB hx,List.any_append,hno];simp[h2]
 refine go ?_;have:k=xs.length:=tr
 subst this;rw[bM]at hno;exact gQ (-1) ⟨λh=>by omega,λh=>by rw[hno]at h;cases h⟩
def ajE{xs:ae (ae Int)}(hl:xs.length<2^63)(hp:∀x∈xs,Cj prog fn first cap F1 p x):
 cK prog (.func 46) [va,.func fn ⟨first⟩ ⟨cap⟩] [] [ap (aA ai) va xs] F1 (λ_:Unit=>.bool (xs.any p)) (λ_=>[ap (aA ai) va xs]) (λ_=>[]) (λ_=>True):=by
 refine gB 46 λB w0=>?_;refine gC (ajD hl hp) λr hr=>?_;refine aM ?_;have:xs.any p=decide (0<=r):=by rw[um,lu];exact hr.symm
 rw[this];rfl
def ajF{vx:ah}{zs:ae Int}(hl:zs.length<2^63)(ys:ae Int):Cj prog (.func 233) [] [ptr' b] [eZ b 0 [vx],aj ai vx zs] (λy=>decide (zs=y)) ys:=by
 intro v;rw[dU];refine gB 233 λB w0=>?_;refine gC (uY (xs:=zs) (ys:=ys) hl) λ_ _=>?_;exact fH
def Au(g:bB)(r:nR):Prop:=(eU g/\xI g r.lists)/\(r.lists.map bR).Nodup
variable{gh gc:ah}{g:bB}
def ajG(hS:nW d)(hG:si g):
 fC prog 168 [.agg ⟨gW d vh vs vr vc vu⟩,.agg ⟨jm g gh gc⟩] (aj fw vr d.regions::jU g gh gc) (λe:Int=>iV e) (λe=>e=0↔∀r∈d.regions,Au g r):=by
 have hrl:=hS.regs;refine gB 168 λB w0=>?_;refine gF fw vr d.regions λar cr er=>?_;subst er;refine go ?_;intro b2 b3;refine gP b2 ?_;refine gP b3 ?_;refine gN d.regions.length 16 (λk=>k<=d.regions.length/\∀r∈d.regions.take k,Au g r) ⟨bP _,tt⟩ ?_;rintro k ⟨hk,hall⟩;refine aB ?_ ?_<;>intro h1
 .refine gX fw (xs:=d.regions) λ_ _ r (vl:ah) hr=>?_;have hrm:=aS hr;obtain⟨hl1,hl2⟩:=hS.tV r hrm;refine go ?_;intro b6;refine gC (XJ (g:=g) (rs:=r.lists) hG hl1 hl2) λy hy=>?_;obtain⟨v7,e⟩:=y;dsimp only at hy⊢;refine aB ?_ ?_<;>intro h2
  .refine go ?_;exact gQ e ⟨(λh=>absurd h h2),λh=>absurd (hy.2 (h r hrm).1) h2⟩
  have he:e=0:=iD.1 h2;obtain⟨hg,hro⟩:=hy.1 he;have hgl:=hg.len;have hrl2:=hro.len;refine gF (aA ai) vl r.lists λal cl el=>?_;subst el;refine go ?_;refine iy (aA ai) ?_;refine dX (λy:Nat×ah=>r.lists.length - y.1) (λy=>[(33,iV (y.1:Int)),(9,y.2)]) (λy=>[ap (aA ai) y.2 ((r.lists.take y.1).map bR)]) (λ_=>[]) (λy=>y.1<=r.lists.length/\((r.lists.take y.1).map bR).Nodup) (0,.slice none 0 0) ⟨bP _,tt⟩ (hk:=tx) (body:=?_);rintro⟨j,v9⟩ ⟨hj,hnd⟩;dsimp only at hj hnd⊢;have hjl:((r.lists.take j).map bR).length=j:=by rw[bZ,iY];omega
  refine aB ?_ ?_<;>intro h3
  .refine gX (aA ai) (xs:=r.lists) λ_ _ ps (vp:ah) hps=>?_;have hpm:=aS hps;have hP:=hro.all ps hpm;have hpl:ps.length<=256:=by have:=Ky hP.mem hP.nd;omega
   refine gC (ajB (v:=vp) (xs:=ps)) λbv _=>?_;refine gC (XI (ajC (b:=bv) (v:=vp) (xs:=ps) tr) (λys h=>by rw[h];omega)) λy hy2=>?_;obtain⟨v39,zs⟩:=y;dsimp only[List.cons_append,List.nil_append]at hy2⊢;subst hy2;have hzl:=Ad zs;refine gZ (gI (E:=ai) (v:=v39) (xs:=bR zs)) ?_;refine gF ai v39 (bR zs) λa39 Qq e39=>?_;subst e39;refine go ?_;intro b12;refine gP b12 ?_;refine gC (ajE (fn:=.func 233) (first:=[]) (cap:=[ptr' b12]) (F1:=[eZ b12 0 [.slice a39 (bR zs).length Qq],aj ai (.slice a39 (bR zs).length Qq) (bR zs)]) (p:=λy=>decide (bR zs=y)) (va:=v9) (xs:=(r.lists.take j).map bR) tr (λx _=>ajF tr x)) λ_ _=>?_;have htk:(r.lists.take (j+1)).map bR=(r.lists.take j).map bR++[bR zs]:=by rw[cB hps,fG,sN]
   refine go ?_;refine jS rfl (λh4=>?_) (λh4=>?_)
   .refine go ?_;refine gQ 161 ⟨(λh=>by cases h),λh=>?_⟩
    exfalso
    have h5:=(h r hrm).2;have h6:((r.lists.take (j+1)).map bR).Nodup:=h5.sublist ((H9 _ _).map _);rw[htk,iT]at h6;obtain⟨x,hx,hx2⟩:=MG.1 h4;exact h6.2.2 x hx _ (bK.2 rfl) (gT hx2).symm
   .refine go ?_;intro b45;refine go ?_;refine fI (xs:=(r.lists.take j).map bR) (aA ai) (bR zs) (.slice a39 (bR zs).length Qq) tr (next:=λad=>?_);rw[<- htk];refine go ?_;refine aQ (j+1,.slice ad (((r.lists.take j).map bR).length+1) (((r.lists.take j).map bR).length+1)) (by show r.lists.length - (j+1)<r.lists.length - j;omega) ⟨by show j+1<=_;omega,?_⟩;show((r.lists.take (j+1)).map bR).Nodup;rw[htk,iT];refine⟨hnd,tt,λa ha b hb e=>?_⟩;rw[bK.1 hb]at e;subst e;rw[List.any_eq_false]at h4;exact h4 _ ha (eB rfl)
  have iJ:j=r.lists.length:=tr
  subst iJ;rw[bM]at hnd;refine go ?_;refine aQ (k+1) A3 ⟨tr,?_⟩;rw[cB hr];intro x hx;rcases dY.1 hx with hx|hx
  .exact hall x hx
  .rw[bK.1 hx];exact⟨⟨hg,hro⟩,hnd⟩
 have hke:k=d.regions.length:=tr
 subst hke;rw[bM]at hall;refine go ?_;exact gQ 0 ⟨λ_=>hall,λ_=>rfl⟩
structure XQ(d:bG):Prop where
 s0:0<d.symbols.length
 s1:d.symbols.length<=16
 r:d.regions.length<=4
 c:d.aR.length<=4
 u:d.rules.length<=16
structure GR(d:bG):Prop where
 lim:XQ d
 rs:DV d
 same:Kd.bH d=d
 Qr:1<=d.version/\d.version<=255
 Ej:qc d.shape d.w d.h d.holes
 Av:∀r∈d.regions,Au (aU d) r
 form:Lb d
 read:jJ d.rules=[]
structure wN(d:bG):Prop where
 s:nW d
 w:lI d.w
 h:lI d.h
 holes:d.holes.length<4611686018427387904
def GU(hm:qc d.shape d.w d.h d.holes):si (aU d):=by
 have hb:=xE hm.wi hm.he;have h1:=hm.wi;have h2:=hm.he;have h3:=hm.len;have h4:=DW (d.w*d.h).toNat d.holes;refine⟨?_,?_,?_,?_⟩
 .show lI d.w;unfold lI;omega
 .show lI d.h;unfold lI;omega
 .show d.holes.length<_;omega
 .show(ny d.w d.h d.holes).length<_;unfold ny;omega
abbrev tF(b:Nat)(d:bG)(vh vs vr vc vu:ah):ae aP:=eZ b 0 (gW d vh vs vr vc vu)::mH d vh vs vr vc vu
def ajH(hS:nW d):cK prog (.func 162) [] [ptr' b] [] (tF b d vh vs vr vc vu) (λe:Int=>iV e) (λ_=>[]) (λ_=>[]) (λe=>e=0↔XQ d):=by
 have hsl:=hS.dG;have hrl:=hS.regs;have hcl:=hS.kD;have xO:=hS.l7;refine gB 162 λB w0=>?_;refine gH ?_ ?_<;>intro h1
 .refine gC (sj (b:=false) (e:=2)) λ_ _=>?_;refine go ?_;refine gQ _ ⟨λh=>?_,λh=>?_⟩
  .cases h
  .exact absurd h.s0 tr
 refine gH ?_ ?_<;>intro h2
 .refine gC (sj (b:=false) (e:=2)) λ_ _=>?_;refine go ?_;refine gQ _ ⟨λh=>?_,λh=>?_⟩
  .cases h
  .exact absurd h.s1 tr
 refine gH ?_ ?_<;>intro h3
 .refine gC (sj (b:=false) (e:=2)) λ_ _=>?_;refine go ?_;refine gQ _ ⟨λh=>?_,λh=>?_⟩
  .cases h
  .exact absurd h.r tr
 refine gH ?_ ?_<;>intro h4
 .refine gC (sj (b:=false) (e:=2)) λ_ _=>?_;refine go ?_;refine gQ _ ⟨λh=>?_,λh=>?_⟩
  .cases h
  .exact absurd h.c tr
 refine go ?_;by_cases h5:d.rules.length<=16
 .rw[show decide ((d.rules.length:Int)<=16)=true from eB tr];refine eO (sj (b:=true) (e:=2)) (next:=λ_ _=>?_);refine go ?_;refine gQ _ ⟨λh=>?_,λh=>?_⟩
  .exact⟨tr,tr,tr,tr,h5⟩
  .rfl
 .rw[show decide ((d.rules.length:Int)<=16)=false from aY tr];refine eO (sj (b:=false) (e:=2)) (next:=λ_ _=>?_);refine go ?_;refine gQ _ ⟨λh=>?_,λh=>?_⟩
  .cases h
  .exact absurd h.u h5
def nW.bH(hS:nW d):nW (Kd.bH d):=by
 refine⟨hS.dG,hS.regs,?_,?_,?_,hS.holes,hS.tV⟩
 .show(d.aR.map _).length<=_;rw[bZ];exact hS.kD
 .show(d.rules.map _).length<=_;rw[bZ];exact hS.l7
 .intro r hr;obtain⟨q,hq,rfl⟩:=eF.1 (show r∈d.rules.map _ from hr);exact hS.tT q hq
def ajI(hS:nW d):cK prog (.func 164) [] [ptr' b] [] (tF b d vh vs vr vc vu) (λe:Int=>iV e) (λ_=>[]) (λ_=>[]) (λe=>e=0↔DV d/\Kd.bH d=d):=by
 refine gB 164 λB w0=>?_;refine gC (Xr (d:=d) hS) λy hy=>?_;obtain⟨ok,e,v1,v2⟩:=y;dsimp only[tQ,qf,Ca]at hy⊢;cases ok with
 |false=>
  obtain⟨he,hno⟩:=hy.2 rfl;dsimp only[cond];refine go ?_;intro b2;refine aB ?_ ?_<;>intro h1
  .refine go ?_;exact gQ e ⟨λh=>absurd h he,λh=>absurd h.1 hno⟩
  .exact absurd (iD.1 h1) he
 |true=>
  obtain⟨he,hres⟩:=hy.1 rfl;subst he;dsimp only[cond,List.cons_append,List.nil_append];refine go ?_;intro b2;refine go ?_;have hsy:dL prog 101 [.agg ⟨gW (Kd.bH d) vh vs vr v1 v2⟩,.agg ⟨gW d vh vs vr vc vu⟩] [aj ai vh d.holes,aj eT vs d.symbols,aj fw vr d.regions,aj bV v1 (Kd.bH d).aR,aj bz v2 (Kd.bH d).rules,aj bV vc d.aR,aj bz vu d.rules] (.bool (decide (Kd.bH d=d))):=
   (Xx (x:=Kd.bH d) (y:=d) (h1:=vh) (s1:=vs) (r1:=vr) (c1:=v1) (u1:=v2) (h2:=vh) (s2:=vs) (r2:=vr) (c2:=vc) (u2:=vu) hS.bH).facts (λf hf=>by
     simp only[mH,fK,dU,bT,Hu,or_false]at hf⊢;rcases hf with rfl|rfl|rfl|rfl|rfl|rfl|rfl|rfl|rfl|rfl
     .exact .inl rfl
     .exact .inr (.inl rfl)
     .exact .inr (.inr (.inl rfl))
     .simp
     .simp
     .exact .inl rfl
     .exact .inr (.inl rfl)
     .exact .inr (.inr (.inl rfl))
     .simp
     .simp)
  refine eO hsy (next:=λ_ _=>?_);refine go ?_;by_cases hr:Kd.bH d=d
  .rw[eB hr];refine eO (sj (b:=true) (e:=170)) (next:=λ_ _=>?_);refine go ?_;exact gQ 0 ⟨λ_=>⟨hres,hr⟩,λ_=>rfl⟩
  .rw[aY hr];refine eO (sj (b:=false) (e:=170)) (next:=λ_ _=>?_);refine go ?_;exact gQ 170 ⟨(λh=>by cases h),λh=>absurd h.2 hr⟩
def ajJ:cK prog (.func 165) [] [ptr' b] [] (tF b d vh vs vr vc vu) (λe:Int=>iV e) (λ_=>[]) (λ_=>[]) (λe=>e=0↔(1<=d.version/\d.version<=255)):=by
 refine gB 165 λB w0=>?_;refine gH ?_ ?_<;>intro h1
 .refine gC (sj (b:=false) (e:=170)) λ_ _=>?_;refine go ?_;exact gQ 170 ⟨(λh=>by cases h),λh=>by exfalso;omega⟩
 refine go ?_;by_cases h2:d.version<=255
 .rw[eB h2];refine eO (sj (b:=true) (e:=170)) (next:=λ_ _=>?_);refine go ?_;exact gQ 0 ⟨λ_=>⟨tr,h2⟩,λ_=>rfl⟩
 .rw[aY h2];refine eO (sj (b:=false) (e:=170)) (next:=λ_ _=>?_);refine go ?_;exact gQ 170 ⟨(λh=>by cases h),λh=>absurd h.2 h2⟩
variable{bg:Nat}
def ajK(hT:wN d):cK prog (.func 166) [] [ptr' b,ptr' bg] [pt bg (.cells GJ)] (tF b d vh vs vr vc vu) (λy:Qe=>iV (cond y.ok 0 130))
 (λy=>[pt bg (.cells (cond y.ok (jm (xQ d.shape d.w d.h d.holes) y.vh y.vc) GJ))]) (qB d.shape d.w d.h d.holes) (λy=>y.ok=true↔qc d.shape d.w d.h d.holes):=by
 refine gB 166 λB w0=>?_;refine gC (Qf (s:=d.shape) (w:=d.w) (h:=d.h) (holes:=d.holes) (vh:=vh) hT.w hT.h hT.holes) λy hy=>?_;obtain⟨ok,v1,v2⟩:=y;cases ok with
 |false=>
  dsimp only[mkV,qB,cond,List.nil_append]at hy⊢;refine go ?_;exact gQ ⟨false,v1,v2⟩ hy
 |true=>
  dsimp only[mkV,qB,cond,jU,xQ,List.cons_append,List.nil_append]at hy⊢;refine go ?_;exact gQ ⟨true,v1,v2⟩ hy (hF:=by show Sub [aj ai v1 d.holes,aj ai v2 (ny d.w d.h d.holes)] _;exact .cons tt (.cons tt .nil))
def ajL(hS:nW d)(hG:si g):cK prog (.func 167) [] [ptr' b,ptr' bg] [] (eZ bg 0 (jm g gh gc)::aj ai gh g.holes::aj ai gc g.cells::tF b d vh vs vr vc vu) (λe:Int=>iV e) (λ_=>[]) (λ_=>[]) (λe=>e=0↔∀r∈d.regions,Au g r):=by
 refine gB 167 λB w0=>?_;refine gC (ajG (d:=d) (g:=g) (gh:=gh) (gc:=gc) hS hG) λe he=>?_;refine go ?_;exact gQ e he
def ajM(hS:nW d):cK prog (.func 169) [] [ptr' b] [] (tF b d vh vs vr vc vu) (λe:Int=>iV e) (λ_=>[]) (λ_=>[]) (λe=>e=0↔Lb d):=by
 refine gB 169 λB w0=>?_;refine gC (ajy (d:=d) hS) λc hc=>?_;refine gC (sj (b:=c) (e:=170)) λ_ _=>?_;refine go ?_;cases c with
 |false=>exact gQ 170 ⟨(λh=>by cases h),λh=>absurd (hc.2 h) tt⟩
 |true=>exact gQ 0 ⟨λ_=>hc.1 rfl,λ_=>rfl⟩
def ajN(hS:nW d):cK prog (.func 171) [] [ptr' b] [] (tF b d vh vs vr vc vu) (λe:Int=>iV e) (λ_=>[]) (λ_=>[]) (λe=>e=0↔jJ d.rules=[]):=by
 refine gB 171 λB w0=>?_;refine gC (ajh (d:=d) hS.l7) λv _=>?_;refine go ?_;by_cases h:jJ d.rules=[]
 .rw[show decide (((jJ d.rules).length:Int)=0)=true from eB (by rw[h];rfl)];refine eO (sj (b:=true) (e:=171)) (next:=λ_ _=>?_);refine go ?_;exact gQ 0 ⟨λ_=>h,λ_=>rfl⟩
 .rw[show decide (((jJ d.rules).length:Int)=0)=false from aY (λe=>h (jX.1 tr))];refine eO (sj (b:=false) (e:=171)) (next:=λ_ _=>?_);refine go ?_;exact gQ 171 ⟨(λh=>by cases h),λe=>absurd e h⟩
def ajO(hT:wN d):fC prog 95 [.agg ⟨gW d vh vs vr vc vu⟩] (mH d vh vs vr vc vu) (λe:Int=>iV e) (λe=>e=0↔GR d):=by
 have hS:=hT.s;refine gB 95 λB w0=>?_;refine go ?_;intro b1 b3 b14;refine gP b1 ?_;refine go ?_;refine qa ?_;refine gC (ajH (b:=b1) (d:=d) hS) λe he=>?_;refine aB (λhne=>?_) (λhz=>?_)
 .refine go ?_;exact gQ e ⟨λh=>absurd h hne,λh=>absurd (he.2 h.lim) hne⟩
 have k1:=he.1 (iD.1 hz);clear hz he;refine go ?_;refine qa ?_;refine gC (ajI (b:=b1) (d:=d) hS) λe he=>?_;refine aB (λhne=>?_) (λhz=>?_)
 .refine go ?_;exact gQ e ⟨λh=>absurd h hne,λh=>absurd (he.2 ⟨h.rs,h.same⟩) hne⟩
 have k2:=he.1 (iD.1 hz);clear hz he;refine go ?_;refine qa ?_;refine gC (ajJ (b:=b1) (d:=d)) λe he=>?_;refine aB (λhne=>?_) (λhz=>?_)
 .refine go ?_;exact gQ e ⟨λh=>absurd h hne,λh=>absurd (he.2 h.Qr) hne⟩
 have k3:=he.1 (iD.1 hz);clear hz he;refine go ?_;refine qa ?_;refine gC (ajK (b:=b1) (bg:=b3) (d:=d) hT) λy hy=>?_;obtain⟨ok,gh,gc⟩:=y;cases ok with
 |false=>
  dsimp only[cond,qB,List.cons_append,List.nil_append]at hy⊢;refine go ?_;exact gQ 130 ⟨(λh=>by cases h),λh=>absurd (hy.2 h.Ej) tt⟩
 |true=>
 have hmk:=hy.1 rfl;have hG:=GU hmk;dsimp only[cond,qB];rw[show xQ d.shape d.w d.h d.holes=aU d from rfl];dsimp only[jU,List.cons_append,List.nil_append];refine gP b3 ?_;refine go ?_;refine qa ?_;refine gC (ajL (b:=b1) (bg:=b3) (d:=d) (g:=aU d) (gh:=gh) (gc:=gc) hS hG) λe he=>?_;refine aB (λhne=>?_) (λhz=>?_)
 .refine go ?_;exact gQ e ⟨λh=>absurd h hne,λh=>absurd (he.2 h.Av) hne⟩
 have k5:=he.1 (iD.1 hz);clear hz he;refine go ?_;refine qa ?_;refine gC (ajM (b:=b1) (d:=d) hS) λe he=>?_;refine aB (λhne=>?_) (λhz=>?_)
 .refine go ?_;exact gQ e ⟨λh=>absurd h hne,λh=>absurd (he.2 h.form) hne⟩
 have k6:=he.1 (iD.1 hz);clear hz he;refine go ?_;refine qa ?_;refine gC (ajN (b:=b1) (d:=d) hS) λe he=>?_;refine aB (λhne=>?_) (λhz=>?_)
 .refine go ?_;exact gQ e ⟨λh=>absurd h hne,λh=>absurd (he.2 h.read) hne⟩
 have k7:=he.1 (iD.1 hz);clear hz he;refine go ?_;refine qa ?_;refine go ?_;exact gQ 0 ⟨λ_=>⟨k1,k2.1,k2.2,k3,hmk,k5,k6,k7⟩,λ_=>rfl⟩
