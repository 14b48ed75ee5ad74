/- Part. -/
import Derived.Test.YtignbinlipkmfaaGreatDoorLibFR
set_option linter.all false
set_option maxRecDepth 10000
set_option maxHeartbeats 4000000
namespace Go.Proofs.YtignbinlipkmfaaGreatDoor
open Tryz (prog)
open Go.Ideal Kd
structure PM(d:bK):Prop where
 dK:∀s∈d.symbols,0<=s.value/\s.value<=99
 lH:∀r∈d.rules,yJ (fK r.kind) d.aQ r
 jS:∀(i:Nat) (c:iT),d.aQ[i]? =some c->(d.rules.map (·.aS)).count (i:Int)=1/\qG c
variable{d:bK}{vh vs vr vc vu:ah}
def aoW(hS:pI d):
 fC prog 170 [.agg ⟨iD d vh vs vr vc vu⟩] [aj fG vs d.symbols,aj bZ vc d.aQ,aj bi vu d.rules] (λb:Bool=>.bool b) (λb=>b=true↔PM d):=by
 have hsl:=hS.dK;have hcl:=hS.jS;have oG:=hS.lH;refine gB 170 λB w0=>?_;refine gF fG vs d.symbols λrz cs1 es=>?_;subst es;refine gF bZ vc d.aQ λac cc ec=>?_;subst ec;refine gF bi vu d.rules λau cu eu=>?_;subst eu;refine go ?_;intro b1;refine gP b1 ?_;refine gN d.symbols.length 13 (λk=>k<=d.symbols.length/\∀s∈d.symbols.take k,0<=s.value/\s.value<=99) ⟨bH _,tg⟩ ?_;rintro k ⟨hk,hall⟩;refine aC ?_ ?_<;>intro h1
 .refine gX fG (xs:=d.symbols) λ_ _ s (_:Unit) hs=>?_;have hsm:=aU hs;refine go ?_;intro b4;refine gH ?_ ?_<;>intro h2
  .refine aC ?_ ?_<;>intro h3
   .exact eE
   .exact fk
  .exact eE
 have hks:k=d.symbols.length:=tf
 subst hks;rw[bP]at hall;refine go ?_;refine yu kG (λbm=>?_);refine go ?_;refine di (λk:Nat=>d.rules.length - k) (λk=>[(30,iV (k:Int))]) (λk=>[gW kG bm (yC ((d.rules.take k).map (·.aS)))]) (λ_=>[]) (λk=>k<=d.rules.length/\∀r∈d.rules.take k,yJ (fK r.kind) d.aQ r) 0 ⟨bH _,tg⟩ (hk:=tj) (body:=?_);rintro k ⟨hk,EM⟩;have hcn:∀c:Int,((d.rules.take k).map (·.aS)).count c<=4096:=λc=>by
  have:=aaI c ((d.rules.take k).map (·.aS));rw[bC,gM]at this;omega
 refine aC ?_ ?_<;>intro h1
 .refine gX bi (xs:=d.rules) λ_ _ r (vv:ah×ah) hr=>?_;have hrm:=aU hr;have hrn:=hS.uF r hrm;refine go ?_;intro b7;refine gC (aoV (d:=d) (r:=r) (v1:=vv.1) (v2:=vv.2) hcl hrn.1 hrn.2) λb hb=>?_;cases b with
  |false=>
   exact oc
  |true=>
   have hR:=hb.1 rfl;have hc1:=hcn r.aS;have hst:yC ((d.rules.take (k+1)).map (·.aS))=upd r.aS (iV ((((d.rules.take k).map (·.aS)).count r.aS:Nat)+1)) (yC ((d.rules.take k).map (·.aS))):=by
    rw[bU hr,ek,ww,aaG]
   refine go ?_;refine Eo (bF:=kG) (b:=bm) (aA:=yC ((d.rules.take k).map (·.aS))) CP r.aS ?_;rw[aaH];refine go ?_;refine vD (bF:=kG) (b:=bm) (v:=iV ((((d.rules.take k).map (·.aS)).count r.aS:Nat)+1)) (aA:=yC ((d.rules.take k).map (·.aS))) CP r.aS ?_;rw[<- hst];exact fL
 have hkr:k=d.rules.length:=tf
 subst hkr;rw[bP]at EM hcn⊢;refine gN d.aQ.length 47 (λk=>k<=d.aQ.length/\∀(i:Nat) (c:iT),i<k->d.aQ[i]? =some c->(d.rules.map (·.aS)).count (i:Int)=1/\qG c) ⟨bH _,λi c h=>by omega⟩ ?_;rintro k ⟨hk,KG⟩;refine aC ?_ ?_<;>intro h1
 .refine gX bZ (xs:=d.aQ) λ_ _ c (_:Unit) hc=>?_;have hck:=hcn (k:Int);refine go ?_;intro b9;refine go ?_;refine Eo (bF:=kG) (b:=bm) (aA:=yC (d.rules.map (·.aS))) CP (k:Int) ?_;rw[aaH];refine gH ?_ ?_<;>intro h2
  .refine gC (aoG (c:=c)) λ_ _=>?_;refine go ?_;refine fP rfl (λh3=>?_) (λh3=>?_)
   .refine go ?_;exact gQ false ⟨(λh=>by cases h),λh=>absurd (h.jS k c hc).2 h3⟩
   .refine go ?_;refine aO (k+1) y6 ⟨tf,λi x hi hx=>?_⟩;by_cases hik:i=k
    .subst hik;rw[hc]at hx;cases hx;exact⟨tf,h3⟩
    .exact KG i x tf hx
  .exact n5
 have hkc:k=d.aQ.length:=tf
 subst hkc;refine go ?_;exact gQ true ⟨λ_=>⟨hall,EM,λi c hc=>KG i c (bJ.1 hc).1 hc⟩,λ_=>rfl⟩
noncomputable def abZ:=qd prog 232
def aoX:lF prog 232=some abZ:=th
noncomputable def ab0:=qd prog 281
def aoY:lF prog 281=some ab0:=th
noncomputable def PN:=qd prog 72
def Vi:lF prog 72=some PN:=th
variable{v:ah}{xs:ae Int}
def aoZ:bG prog (.func 232) [v] [] [] [aj ai v xs] (λb:Nat=>.func (.func 281) #[] #[ptr' b]) (λ_=>[]) (λb=>[dO b 0 [v]]) (λ_=>True):=by
 refine jD abZ aoX λB w0=>?_;refine gF ai v xs λa c e=>?_;subst e;refine go ?_;intro b1;refine go ?_;refine gP b1 ?_;exact gQ b1 trivial
variable{b:Nat}
def ao0(hl:xs.length<2^63):wO prog (λx:Int=>[kG x]) (.func 281) [] [ptr' b] [dO b 0 [v],aj ai v xs] (λys=>ys=xs):=by
 intro S inv ok step s0 zq y1 y2 F' h0 hok hy;rw[fB,fB,dP];refine jD ab0 aoY λB w0=>?_;refine go ?_;refine di (λy:Nat×S=>xs.length - y.1) (λy=>[(7,iV (y.1:Int))]) (λy=>inv y.2) (λ_=>[]) (λy=>y.1<=xs.length/\ok (xs.take y.1) y.2/\jG step y.2 (xs.drop y.1)=jG step s0 xs) (0,s0) ⟨bH _,h0,rfl⟩ (body:=?_);rintro⟨k,s⟩ ⟨hk,hos,hrun⟩;dsimp only at hk hos hrun⊢;refine aC ?_ ?_<;>intro h1
 .refine go ?_;intro _ _ x hx;have hd:xs.drop k=x::xs.drop (k+1):=by
   rw[qp tf];congr 1;rw[bY tf]at hx;exact Option.some.inj hx
  have hX:xs.take k++x::xs.drop (k+1)=xs:=by rw[<- hd,si]
  have uI:=hy _ s _ _ hos hX;rw[hd,jG]at hrun;refine gC uI λ_ _=>?_;cases hst:(step s x).2 with
  |true=>
   have hs1:step s x=((step s x).1,true):=Prod.ext rfl hst;rw[hs1]at hrun;refine go ?_;refine aO (k+1,(step s x).1) C0 ⟨by show k+1<=_;omega,?_,hrun⟩;show ok (xs.take (k+1)) _;rw[bU hx];exact hok _ s _ _ hos hX hst
  |false=>
   have hs1:step s x=((step s x).1,false):=Prod.ext rfl hst;rw[hs1]at hrun;dsimp only at hrun;exact p0
 have hke:k=xs.length:=tf
 subst hke;rw[List.drop_length]at hrun;exact p0
abbrev EN(P:Program)(fn:Fn)(first cap:ae ah)(F:ae aM)(p:ae Int->Bool)(x:ae Int):Prop:=
 ∀v:ah,bG P fn (first++[v]) cap [] (aj ai v x::F) (λ_:Unit=>.bool (p x)) (λ_=>[]) (λ_=>[]) (λ_=>True)
variable{va:ah}{fn:Fn}{first cap:ae ah}{F1:ae aM}{p:ae Int->Bool}
def ao1{xs:ae (ae Int)}(hl:xs.length<2^63)(hp:∀x∈xs,EN prog fn first cap F1 p x):
 bG prog (.func 72) [va,.func fn ⟨first⟩ ⟨cap⟩] [] [ap (ay ai) va xs] F1 (λr:Int=>iV r) (λ_=>[ap (ay ai) va xs]) (λ_=>[]) (λr=>(0<=r↔xs.any p=true)):=by
 refine jD PN Vi λB w0=>?_;refine sZ (E:=ay ai) (v:=va) (xs:=xs) λa hv=>?_;subst hv;refine gN xs.length 8 (λk=>k<=xs.length/\(xs.take k).any p=false) ⟨tf,tg⟩ ?_;rintro k ⟨hk,hno⟩;refine aC ?_ ?_<;>intro h1
 .have hx:xs[k]? =some (xs[k]'(tf)):=bY _;generalize xs[k]'(tf)=x at hx;refine go ?_;refine Ow ai (v:=.slice a xs.length xs.length) (xss:=xs) k x hx (next:=λb o u=>?_);refine gC (hp x (aU hx) u) λ_ _=>?_;refine go ?_;refine kX rfl (λh2=>?_) (λh2=>?_)
  .refine go ?_;exact gQ (k:Int) ⟨λ_=>List.any_eq_true.2 ⟨x,aU hx,h2⟩,λ_=>by omega⟩
  .refine go ?_;refine aO (k+1) tf ⟨tf,?_⟩;rw[bU hx,List.any_append,hno];simp[h2]
 refine go ?_;have:k=xs.length:=tf
 subst this;rw[bP]at hno;exact gQ (-1) ⟨λh=>by omega,λh=>by rw[hno]at h;cases h⟩
def ao2{xs:ae (ae Int)}(hl:xs.length<2^63)(hp:∀x∈xs,EN prog fn first cap F1 p x):
 bG prog (.func 46) [va,.func fn ⟨first⟩ ⟨cap⟩] [] [ap (ay ai) va xs] F1 (λ_:Unit=>.bool (xs.any p)) (λ_=>[ap (ay ai) va xs]) (λ_=>[]) (λ_=>True):=by
 refine gB 46 λB w0=>?_;refine gC (ao1 hl hp) λr hr=>?_;refine aP ?_;have:xs.any p=decide (0<=r):=by rw[Fp,qL];exact hr.symm
 rw[this];rfl
def ao3{vx:ah}{zs:ae Int}(hl:zs.length<2^63)(ys:ae Int):EN prog (.func 233) [] [ptr' b] [dO b 0 [vx],aj ai vx zs] (λy=>decide (zs=y)) ys:=by
 intro v;rw[dP];refine gB 233 λB w0=>?_;refine gC (yI (xs:=zs) (ys:=ys) hl) λ_ _=>?_;exact fQ
def CR(g:bA)(r:pu):Prop:=(eF g/\wU g r.lists)/\(r.lists.map cK).Nodup
variable{gh gc:ah}{g:bA}
def ao4(hS:pI d)(hG:rR g):
 fC prog 168 [.agg ⟨iD d vh vs vr vc vu⟩,.agg ⟨iW g gh gc⟩] (aj fw vr d.regions::jU g gh gc) (λe:Int=>iV e) (λe=>e=0↔∀r∈d.regions,CR g r):=by
 have hrl:=hS.regs;refine gB 168 λB w0=>?_;refine gF fw vr d.regions λar cr er=>?_;subst er;refine go ?_;intro b2 b3;refine gP b2 ?_;refine gP b3 ?_;refine gN d.regions.length 16 (λk=>k<=d.regions.length/\∀r∈d.regions.take k,CR g r) ⟨bH _,tg⟩ ?_;rintro k ⟨hk,hall⟩;refine aC ?_ ?_<;>intro h1
 .refine gX fw (xs:=d.regions) λ_ _ r (vl:ah) hr=>?_;have hrm:=aU hr;obtain⟨hl1,hl2⟩:=hS.uG r hrm;refine go ?_;intro b6;refine gC (abW (g:=g) (rs:=r.lists) hG hl1 hl2) λy hy=>?_;obtain⟨v7,e⟩:=y;dsimp only at hy⊢;refine aC ?_ ?_<;>intro h2
  .refine go ?_;exact gQ e ⟨(λh=>absurd h h2),λh=>absurd (hy.2 (h r hrm).1) h2⟩
  have he:e=0:=iX.1 h2;obtain⟨hg,hro⟩:=hy.1 he;have hgl:=hg.len;have hrl2:=hro.len;refine gF (ay ai) vl r.lists λal cl el=>?_;subst el;refine go ?_;refine gK (ay ai) ?_;refine di (λy:Nat×ah=>r.lists.length - y.1) (λy=>[(33,iV (y.1:Int)),(9,y.2)]) (λy=>[ap (ay ai) y.2 ((r.lists.take y.1).map cK)]) (λ_=>[]) (λy=>y.1<=r.lists.length/\((r.lists.take y.1).map cK).Nodup) (0,.slice none 0 0) ⟨bH _,tg⟩ (hk:=tj) (body:=?_);rintro⟨j,v9⟩ ⟨hj,hnd⟩;dsimp only at hj hnd⊢;have hjl:((r.lists.take j).map cK).length=j:=y4
  refine aC ?_ ?_<;>intro h3
  .refine gX (ay ai) (xs:=r.lists) λ_ _ ps (vp:ah) hps=>?_;have hpm:=aU hps;have hP:=hro.all ps hpm;have hpl:ps.length<=256:=by have:=O6 hP.mem hP.nd;omega
   refine gC (aoZ (v:=vp) (xs:=ps)) λbv _=>?_;refine gC (abV (ao0 (b:=bv) (v:=vp) (xs:=ps) tf) (λys h=>by rw[h];omega)) λy hy2=>?_;obtain⟨v39,zs⟩:=y;dsimp only[List.cons_append,List.nil_append]at hy2⊢;subst hy2;have hzl:=Cr zs;refine gZ (gD (E:=ai) (v:=v39) (xs:=cK zs)) ?_;refine gF ai v39 (cK zs) λa39 Vj e39=>?_;subst e39;refine go ?_;intro b12;refine gP b12 ?_;refine gC (ao2 (fn:=.func 233) (first:=[]) (cap:=[ptr' b12]) (F1:=[dO b12 0 [.slice a39 (cK zs).length Vj],aj ai (.slice a39 (cK zs).length Vj) (cK zs)]) (p:=λy=>decide (cK zs=y)) (va:=v9) (xs:=(r.lists.take j).map cK) tf (λx _=>ao3 tf x)) λ_ _=>?_;have htk:(r.lists.take (j+1)).map cK=(r.lists.take j).map cK++[cK zs]:=by rw[bU hps,ek,ww]
   refine go ?_;refine kX rfl (λh4=>?_) (λh4=>?_)
   .refine go ?_;refine gQ 161 ⟨(λh=>by cases h),λh=>?_⟩
    exfalso
    have h5:=(h r hrm).2;have h6:((r.lists.take (j+1)).map cK).Nodup:=h5.sublist ((Q6 _ _).map _);rw[htk,jV]at h6;obtain⟨x,hx,hx2⟩:=List.any_eq_true.1 h4;exact h6.2.2 x hx _ (bS.2 rfl) (iN hx2).symm
   .refine go ?_;intro b45;refine go ?_;refine fJ (xs:=(r.lists.take j).map cK) (ay ai) (cK zs) (.slice a39 (cK zs).length Vj) tf (next:=λad=>?_);rw[<- htk];refine go ?_;refine aO (j+1,.slice ad (((r.lists.take j).map cK).length+1) (((r.lists.take j).map cK).length+1)) (by show r.lists.length - (j+1)<r.lists.length - j;omega) ⟨by show j+1<=_;omega,?_⟩;show((r.lists.take (j+1)).map cK).Nodup;rw[htk,jV];refine⟨hnd,tg,λa ha b hb e=>?_⟩;rw[bS.1 hb]at e;subst e;rw[M0]at h4;exact h4 _ ha (dQ rfl)
  have j5:j=r.lists.length:=tf
  subst j5;rw[bP]at hnd;refine go ?_;refine aO (k+1) AS ⟨tf,?_⟩;rw[bU hr];intro x hx;rcases eP.1 hx with hx|hx
  .exact hall x hx
  .rw[bS.1 hx];exact⟨⟨hg,hro⟩,hnd⟩
 have hke:k=d.regions.length:=tf
 subst hke;rw[bP]at hall;refine go ?_;exact gQ 0 ⟨λ_=>hall,λ_=>rfl⟩
structure ab1(d:bK):Prop where
 s0:0<d.symbols.length
 s1:d.symbols.length<=16
 r:d.regions.length<=4
 c:d.aQ.length<=4
 u:d.rules.length<=16
structure EO(d:bK):Prop where
 lim:ab1 d
 rs:GK d
 same:Kd.bO d=d
 PO:1<=d.version/\d.version<=255
 EP:qZ d.shape d.w d.h d.holes
 zN:∀r∈d.regions,CR (aT d) r
 form:PM d
 read:jI d.rules=[]
structure vP(d:bK):Prop where
 s:pI d
 w:lG d.w
 h:lG d.h
 holes:d.holes.length<4611686018427387904
def KH(hm:qZ d.shape d.w d.h d.holes):rR (aT d):=by
 have hb:=zB hm.wi hm.he;have h1:=hm.wi;have h2:=hm.he;have h3:=hm.len;have h4:=GL (d.w*d.h).toNat d.holes;refine⟨?_,?_,?_,?_⟩
 .show lG d.w;unfold lG;omega
 .show lG d.h;unfold lG;omega
 .show d.holes.length<_;omega
 .show(pF d.w d.h d.holes).length<_;unfold pF;omega
abbrev tF(b:Nat)(d:bK)(vh vs vr vc vu:ah):ae aM:=dO b 0 (iD d vh vs vr vc vu)::nK d vh vs vr vc vu
def ao5(hS:pI d):bG prog (.func 162) [] [ptr' b] [] (tF b d vh vs vr vc vu) (λe:Int=>iV e) (λ_=>[]) (λ_=>[]) (λe=>e=0↔ab1 d):=by
 have hsl:=hS.dK;have hrl:=hS.regs;have hcl:=hS.jS;have oG:=hS.lH;refine gB 162 λB w0=>?_;refine gH ?_ ?_<;>intro h1
 .refine gC (uJ (b:=false) (e:=2)) λ_ _=>?_;refine go ?_;refine gQ _ ⟨λh=>?_,λh=>?_⟩
  .cases h
  .exact absurd h.s0 tf
 refine gH ?_ ?_<;>intro h2
 .refine gC (uJ (b:=false) (e:=2)) λ_ _=>?_;refine go ?_;refine gQ _ ⟨λh=>?_,λh=>?_⟩
  .cases h
  .exact absurd h.s1 tf
 refine gH ?_ ?_<;>intro h3
 .refine gC (uJ (b:=false) (e:=2)) λ_ _=>?_;refine go ?_;refine gQ _ ⟨λh=>?_,λh=>?_⟩
  .cases h
  .exact absurd h.r tf
 refine gH ?_ ?_<;>intro h4
 .refine gC (uJ (b:=false) (e:=2)) λ_ _=>?_;refine go ?_;refine gQ _ ⟨λh=>?_,λh=>?_⟩
  .cases h
  .exact absurd h.c tf
 refine go ?_;by_cases h5:d.rules.length<=16
 .rw[show decide ((d.rules.length:Int)<=16)=true from dQ tf];refine fD (uJ (b:=true) (e:=2)) (next:=λ_ _=>?_);refine go ?_;refine gQ _ ⟨λh=>?_,λh=>?_⟩
  .exact⟨tf,tf,tf,tf,h5⟩
  .rfl
 .rw[show decide ((d.rules.length:Int)<=16)=false from aW tf];refine fD (uJ (b:=false) (e:=2)) (next:=λ_ _=>?_);refine go ?_;refine gQ _ ⟨λh=>?_,λh=>?_⟩
  .cases h
  .exact absurd h.u h5
def pI.bO(hS:pI d):pI (Kd.bO d):=by
 refine⟨hS.dK,hS.regs,?_,?_,?_,hS.holes,hS.uG⟩
 .show(d.aQ.map _).length<=_;rw[bC];exact hS.jS
 .show(d.rules.map _).length<=_;rw[bC];exact hS.lH
 .intro r hr;obtain⟨q,hq,rfl⟩:=dM.1 (show r∈d.rules.map _ from hr);exact hS.uF q hq
def ao6(hS:pI d):bG prog (.func 164) [] [ptr' b] [] (tF b d vh vs vr vc vu) (λe:Int=>iV e) (λ_=>[]) (λ_=>[]) (λe=>e=0↔GK d/\Kd.bO d=d):=by
 refine gB 164 λB w0=>?_;refine gC (abH (d:=d) hS) λy hy=>?_;obtain⟨ok,e,v1,v2⟩:=y;dsimp only[vK,ry,EF]at hy⊢;cases ok with
 |false=>
  obtain⟨he,hno⟩:=hy.2 rfl;dsimp only[cond];refine go ?_;intro b2;refine aC ?_ ?_<;>intro h1
  .refine go ?_;exact gQ e ⟨λh=>absurd h he,λh=>absurd h.1 hno⟩
  .exact absurd (iX.1 h1) he
 |true=>
  obtain⟨he,hres⟩:=hy.1 rfl;subst he;dsimp only[cond,List.cons_append,List.nil_append];refine go ?_;intro b2;refine go ?_;have hsy:dF prog 101 [.agg ⟨iD (Kd.bO d) vh vs vr v1 v2⟩,.agg ⟨iD d vh vs vr vc vu⟩] [aj ai vh d.holes,aj fG vs d.symbols,aj fw vr d.regions,aj bZ v1 (Kd.bO d).aQ,aj bi v2 (Kd.bO d).rules,aj bZ vc d.aQ,aj bi vu d.rules] (.bool (decide (Kd.bO d=d))):=
   (abM (x:=Kd.bO d) (y:=d) (h1:=vh) (s1:=vs) (r1:=vr) (c1:=v1) (u1:=v2) (h2:=vh) (s2:=vs) (r2:=vr) (c2:=vc) (u2:=vu) hS.bO).facts (λf hf=>by
     simp only[nK,fB,dP,dB,MV,or_false]at hf⊢;rcases hf with rfl|rfl|rfl|rfl|rfl|rfl|rfl|rfl|rfl|rfl
     .exact .inl rfl
     .exact .inr (.inl rfl)
     .exact .inr (.inr (.inl rfl))
     .simp
     .simp
     .exact .inl rfl
     .exact .inr (.inl rfl)
     .exact .inr (.inr (.inl rfl))
     .simp
     .simp)
  refine fD hsy (next:=λ_ _=>?_);refine go ?_;by_cases hr:Kd.bO d=d
  .rw[dQ hr];refine fD (uJ (b:=true) (e:=170)) (next:=λ_ _=>?_);refine go ?_;exact gQ 0 ⟨λ_=>⟨hres,hr⟩,λ_=>rfl⟩
  .rw[aW hr];refine fD (uJ (b:=false) (e:=170)) (next:=λ_ _=>?_);refine go ?_;exact gQ 170 ⟨(λh=>by cases h),λh=>absurd h.2 hr⟩
def ao7:bG prog (.func 165) [] [ptr' b] [] (tF b d vh vs vr vc vu) (λe:Int=>iV e) (λ_=>[]) (λ_=>[]) (λe=>e=0↔(1<=d.version/\d.version<=255)):=by
 refine gB 165 λB w0=>?_;refine gH ?_ ?_<;>intro h1
 .refine gC (uJ (b:=false) (e:=170)) λ_ _=>?_;refine go ?_;exact gQ 170 ⟨(λh=>by cases h),λh=>by exfalso;omega⟩
 refine go ?_;by_cases h2:d.version<=255
 .rw[dQ h2];refine fD (uJ (b:=true) (e:=170)) (next:=λ_ _=>?_);refine go ?_;exact gQ 0 ⟨λ_=>⟨tf,h2⟩,λ_=>rfl⟩
 .rw[aW h2];refine fD (uJ (b:=false) (e:=170)) (next:=λ_ _=>?_);refine go ?_;exact gQ 170 ⟨(λh=>by cases h),λh=>absurd h.2 h2⟩
variable{bg:Nat}
def ao8(hT:vP d):bG prog (.func 166) [] [ptr' b,ptr' bg] [pt bg (.cells KA)] (tF b d vh vs vr vc vu) (λy:U5=>iV (cond y.ok 0 130))
 (λy=>[pt bg (.cells (cond y.ok (iW (zK d.shape d.w d.h d.holes) y.vh y.vc) KA))]) (rQ d.shape d.w d.h d.holes) (λy=>y.ok=true↔qZ d.shape d.w d.h d.holes):=by
 refine gB 166 λB w0=>?_;refine gC (U6 (s:=d.shape) (w:=d.w) (h:=d.h) (holes:=d.holes) (vh:=vh) hT.w hT.h hT.holes) λy hy=>?_;obtain⟨ok,v1,v2⟩:=y;cases ok with
 |false=>
  dsimp only[mkV,rQ,cond,List.nil_append]at hy⊢;refine go ?_;exact gQ ⟨false,v1,v2⟩ hy
 |true=>
  dsimp only[mkV,rQ,cond,jU,zK,List.cons_append,List.nil_append]at hy⊢;refine go ?_;exact gQ ⟨true,v1,v2⟩ hy (hF:=by show Sub [aj ai v1 d.holes,aj ai v2 (pF d.w d.h d.holes)] _;exact .cons tg (.cons tg .nil))
def ao9(hS:pI d)(hG:rR g):bG prog (.func 167) [] [ptr' b,ptr' bg] [] (dO bg 0 (iW g gh gc)::aj ai gh g.holes::aj ai gc g.cells::tF b d vh vs vr vc vu) (λe:Int=>iV e) (λ_=>[]) (λ_=>[]) (λe=>e=0↔∀r∈d.regions,CR g r):=by
 refine gB 167 λB w0=>?_;refine gC (ao4 (d:=d) (g:=g) (gh:=gh) (gc:=gc) hS hG) λe he=>?_;refine go ?_;exact gQ e he
def apa(hS:pI d):bG prog (.func 169) [] [ptr' b] [] (tF b d vh vs vr vc vu) (λe:Int=>iV e) (λ_=>[]) (λ_=>[]) (λe=>e=0↔PM d):=by
 refine gB 169 λB w0=>?_;refine gC (aoW (d:=d) hS) λc hc=>?_;refine gC (uJ (b:=c) (e:=170)) λ_ _=>?_;refine go ?_;cases c with
 |false=>exact gQ 170 ⟨(λh=>by cases h),λh=>absurd (hc.2 h) tg⟩
 |true=>exact gQ 0 ⟨λ_=>hc.1 rfl,λ_=>rfl⟩
def apb(hS:pI d):bG prog (.func 171) [] [ptr' b] [] (tF b d vh vs vr vc vu) (λe:Int=>iV e) (λ_=>[]) (λ_=>[]) (λe=>e=0↔jI d.rules=[]):=by
 refine gB 171 λB w0=>?_;refine gC (aoF (d:=d) hS.lH) λv _=>?_;refine go ?_;by_cases h:jI d.rules=[]
 .rw[show decide (((jI d.rules).length:Int)=0)=true from dQ (by rw[h];rfl)];refine fD (uJ (b:=true) (e:=171)) (next:=λ_ _=>?_);refine go ?_;exact gQ 0 ⟨λ_=>h,λ_=>rfl⟩
 .rw[show decide (((jI d.rules).length:Int)=0)=false from aW (λe=>h (lW.1 tf))];refine fD (uJ (b:=false) (e:=171)) (next:=λ_ _=>?_);refine go ?_;exact gQ 171 ⟨(λh=>by cases h),λe=>absurd e h⟩
def apc(hT:vP d):fC prog 95 [.agg ⟨iD d vh vs vr vc vu⟩] (nK d vh vs vr vc vu) (λe:Int=>iV e) (λe=>e=0↔EO d):=by
 have hS:=hT.s;refine gB 95 λB w0=>?_;refine go ?_;intro b1 b3 b14;refine gP b1 ?_;refine go ?_;refine qX ?_;refine gC (ao5 (b:=b1) (d:=d) hS) λe he=>?_;refine aC (λhne=>?_) (λhz=>?_)
 .refine go ?_;exact gQ e ⟨λh=>absurd h hne,λh=>absurd (he.2 h.lim) hne⟩
 have k1:=he.1 (iX.1 hz);clear hz he;refine go ?_;refine qX ?_;refine gC (ao6 (b:=b1) (d:=d) hS) λe he=>?_;refine aC (λhne=>?_) (λhz=>?_)
 .refine go ?_;exact gQ e ⟨λh=>absurd h hne,λh=>absurd (he.2 ⟨h.rs,h.same⟩) hne⟩
 have k2:=he.1 (iX.1 hz);clear hz he;refine go ?_;refine qX ?_;refine gC (ao7 (b:=b1) (d:=d)) λe he=>?_;refine aC (λhne=>?_) (λhz=>?_)
 .refine go ?_;exact gQ e ⟨λh=>absurd h hne,λh=>absurd (he.2 h.PO) hne⟩
 have k3:=he.1 (iX.1 hz);clear hz he;refine go ?_;refine qX ?_;refine gC (ao8 (b:=b1) (bg:=b3) (d:=d) hT) λy hy=>?_;obtain⟨ok,gh,gc⟩:=y;cases ok with
 |false=>
  dsimp only[cond,rQ,List.cons_append,List.nil_append]at hy⊢;refine go ?_;exact gQ 130 ⟨(λh=>by cases h),λh=>absurd (hy.2 h.EP) tg⟩
 |true=>
 have hmk:=hy.1 rfl;have hG:=KH hmk;dsimp only[cond,rQ];rw[show zK d.shape d.w d.h d.holes=aT d from rfl];dsimp only[jU,List.cons_append,List.nil_append];refine gP b3 ?_;refine go ?_;refine qX ?_;refine gC (ao9 (b:=b1) (bg:=b3) (d:=d) (g:=aT d) (gh:=gh) (gc:=gc) hS hG) λe he=>?_;refine aC (λhne=>?_) (λhz=>?_)
 .refine go ?_;exact gQ e ⟨λh=>absurd h hne,λh=>absurd (he.2 h.zN) hne⟩
 have k5:=he.1 (iX.1 hz);clear hz he;refine go ?_;refine qX ?_;refine gC (apa (b:=b1) (d:=d) hS) λe he=>?_;refine aC (λhne=>?_) (λhz=>?_)
 .refine go ?_;exact gQ e ⟨λh=>absurd h hne,λh=>absurd (he.2 h.form) hne⟩
 have k6:=he.1 (iX.1 hz);clear hz he;refine go ?_;refine qX ?_;refine gC (apb (b:=b1) (d:=d) hS) λe he=>?_;refine aC (λhne=>?_) (λhz=>?_)
 .refine go ?_;exact gQ e ⟨λh=>absurd h hne,λh=>absurd (he.2 h.read) hne⟩
 have k7:=he.1 (iX.1 hz);clear hz he;refine go ?_;refine qX ?_;refine go ?_;exact gQ 0 ⟨λ_=>⟨k1,k2.1,k2.2,k3,hmk,k5,k6,k7⟩,λ_=>rfl⟩
