/-
  Types: declarations that are well-formed.
-/
import Derived.Test.YtoohgkkmdnbnfaaGreatDoorLibIE
set_option linter.all false
set_option maxRecDepth 10000
set_option maxHeartbeats 4000000
namespace Go.Proofs.YtoohgkkmdnbnfaaGreatDoor
open Go.Ideal Kd
structure KU(d:bR):Prop where
 dA:∀s∈d.symbols,0<=s.value/\s.value<=99
 l5:∀r∈d.rules,Ba (gU r.kind) d.bI r
 jZ:∀(i:Nat) (c:ji),d.bI[i]? =some c->(d.rules.map (·.aJ)).count (i:Int)=1/\qz c
theorem ac0{d:bR}{vh vs vr vc vu:Value}(hS:nX d):
 aV Tryz.prog (.func 225) [.agg ⟨jY d vh vs vr vc vu⟩] [] [] [ai jM vs d.symbols,ai dH vc d.bI,ai bq vu d.rules] (λb:Bool=>.bool b) (λ_=>[]) (λ_=>[]) (λb=>b=true↔KU d):=by
 have hsl:=hS.dA;have hcl:=hS.jZ;have Kb:=hS.l5;refine aS _ (aQ 225) λB w0=>?_;refine fq (E:=jM) (v:=vs) (xs:=d.symbols) (by simp) λwG cs1 es=>?_;subst es;refine fq (E:=dH) (v:=vc) (xs:=d.bI) (by simp) λac cc ec=>?_;subst ec;refine fq (E:=bq) (v:=vu) (xs:=d.rules) (by simp) λau cu eu=>?_;subst eu;refine go ?_;intro b1;refine aZ (fo (b:=b1)) (h:=?_);refine go ?_;refine bJ (λk:Nat=>d.symbols.length - k) (λk=>[(13,.int .i64 (k:Int))]) (λ_=>[]) (λ_=>[]) (λk=>k<=d.symbols.length/\∀s∈d.symbols.take k,0<=s.value/\s.value<=99) 0 ⟨dD _,by simp⟩ (body:=?_);rintro k ⟨hk,hall⟩;refine go ?_;refine aG rfl (λh1=>?_) (λh1=>?_)
 ·refine go ?_;refine dm jM (xs:=d.symbols) (next:=λ_ _ s (_:Unit) hs=>?_);have hsm:=bG hs;refine go ?_;intro b4;refine go ?_;first|with_reducible refine aN (λh2=>?_) (λh2=>?_)|with_reducible refine aO (λh2=>?_) (λh2=>?_)|with_reducible refine aL (λh2=>?_) (λh2=>?_)
  ·refine go ?_;refine aG rfl (λh3=>?_) (λh3=>?_)
   ·refine go ?_;exact aa false (hv:=rfl) (hp:=⟨(λh=>by cases h),λh=>by exfalso;have:=h.dA s hsm;omega⟩)
   ·refine go ?_;refine bi (k+1) (by show d.symbols.length - (k+1)<d.symbols.length - k;omega) ⟨by omega,?_⟩;rw[j4 hs];intro x hx;rcases eZ.1 hx with hx|hx
    ·exact hall x hx
    ·rw[bC.1 hx];omega
  ·refine go ?_;exact aa false (hv:=rfl) (hp:=⟨(λh=>by cases h),λh=>by exfalso;have:=h.dA s hsm;omega⟩)
 have hks:k=d.symbols.length:=by omega
 subst hks;rw[eB]at hall;refine go ?_;refine vY iH (λbm=>?_);refine go ?_;refine bJ (λk:Nat=>d.rules.length - k) (λk=>[(30,.int .i64 (k:Int))]) (λk=>[fu iH bm (rq ((d.rules.take k).map (·.aJ)))]) (λ_=>[]) (λk=>k<=d.rules.length/\∀r∈d.rules.take k,Ba (gU r.kind) d.bI r) 0 ⟨dD _,by simp⟩ (hk:=by repeat (first|exact aM.nil|(apply aM.cons;(focus (repeat (first|exact aj.here|apply aj.there)))))) (body:=?_);rintro k ⟨hk,KW⟩;have hcn:∀c:Int,((d.rules.take k).map (·.aJ)).count c<=4096:=λc=>by
  have:=aah c ((d.rules.take k).map (·.aJ));rw[bT,jE]at this;omega
 refine go ?_;refine aG rfl (λh1=>?_) (λh1=>?_)
 ·refine go ?_;refine dm bq (xs:=d.rules) (next:=λ_ _ r (vv:Value×Value) hr=>?_);have hrm:=bG hr;have hrn:=hS.uC r hrm;refine go ?_;intro b7;refine go ?_;refine ax (acZ (d:=d) (r:=r) (v1:=vv.1) (v2:=vv.2) hcl hrn.1 hrn.2) (next:=λb hb=>?_);cases b with
  |false=>
   refine go ?_;exact aa false (hv:=rfl) (hp:=⟨(λh=>by cases h),λh=>absurd (hb.2 (h.l5 r hrm)) (by simp)⟩)
  |true=>
   have hR:=hb.1 rfl;have hc1:=hcn r.aJ;have hst:rq ((d.rules.take (k+1)).map (·.aJ))=upd r.aJ (.int .i64 ((((d.rules.take k).map (·.aJ)).count r.aJ:Nat)+1)) (rq ((d.rules.take k).map (·.aJ))):=by
    rw[j4 hr,dM,rP,Rf]
   refine go ?_;refine CP (aP:=iH) (b:=bm) (ah:=rq ((d.rules.take k).map (·.aJ))) wF r.aJ ?_;rw[Rh];refine go ?_;refine uo (aP:=iH) (b:=bm) (v:=.int .i64 ((((d.rules.take k).map (·.aJ)).count r.aJ:Nat)+1)) (ah:=rq ((d.rules.take k).map (·.aJ))) wF r.aJ ?_;rw[<- hst];refine go ?_;refine bi (k+1) (by show d.rules.length - (k+1)<d.rules.length - k;omega) ⟨by omega,?_⟩;rw[j4 hr];intro x hx;rcases eZ.1 hx with hx|hx
   ·exact KW x hx
   ·rw[bC.1 hx];exact hR
 have hkr:k=d.rules.length:=by omega
 subst hkr;rw[eB]at KW hcn⊢;refine go ?_;refine bJ (λk:Nat=>d.bI.length - k) (λk=>[(47,.int .i64 (k:Int))]) (λ_=>[]) (λ_=>[]) (λk=>k<=d.bI.length/\∀(i:Nat) (c:ji),i<k->d.bI[i]? =some c->(d.rules.map (·.aJ)).count (i:Int)=1/\qz c) 0 ⟨dD _,λi c h=>by omega⟩ (body:=?_);rintro k ⟨hk,SV⟩;refine go ?_;refine aG rfl (λh1=>?_) (λh1=>?_)
 ·refine go ?_;refine dm dH (xs:=d.bI) (next:=λ_ _ c (_:Unit) hc=>?_);have hck:=hcn (k:Int);refine go ?_;intro b9;refine go ?_;refine CP (aP:=iH) (b:=bm) (ah:=rq (d.rules.map (·.aJ))) wF (k:Int) ?_;rw[Rh];refine go ?_;first|with_reducible refine aN (λh2=>?_) (λh2=>?_)|with_reducible refine aO (λh2=>?_) (λh2=>?_)|with_reducible refine aL (λh2=>?_) (λh2=>?_)
  ·refine go ?_;refine ax (acK (c:=c)) (next:=λ_ _=>?_);refine go ?_;refine lg rfl (λh3=>?_) (λh3=>?_)
   ·refine go ?_;exact aa false (hv:=rfl) (hp:=⟨(λh=>by cases h),λh=>absurd (h.jZ k c hc).2 h3⟩)
   ·refine go ?_;refine bi (k+1) (by show d.bI.length - (k+1)<d.bI.length - k;omega) ⟨by omega,λi x hi hx=>?_⟩;by_cases hik:i=k
    ·subst hik;rw[hc]at hx;cases hx;exact⟨by omega,h3⟩
    ·exact SV i x (by omega) hx
  ·refine go ?_;exact aa false (hv:=rfl) (hp:=⟨(λh=>by cases h),λh=>by exfalso;have:=(h.jZ k c hc).1;omega⟩)
 have hkc:k=d.bI.length:=by omega
 subst hkc;refine go ?_;exact aa true (hv:=rfl) (hp:=⟨λ_=>⟨hall,KW,λi c hc=>SV i c (bA.1 hc).1 hc⟩,λ_=>rfl⟩)
theorem ac1{v:Value}{xs:List Int}:aV Tryz.prog (.func 255) [v] [] [] [ai ae v xs] (λb:Nat=>.func (.func 290) #[] #[ptr' b]) (λ_=>[]) (λb=>[dF b 0 [v]]) (λ_=>True):=by
 refine aS _ (aQ 255) λB w0=>?_;refine fq (E:=ae) (v:=v) (xs:=xs) (by simp) λa c e=>?_;subst e;refine go ?_;intro b1;refine go ?_;refine aZ (fo (b:=b1)) (h:=?_);exact aa b1 (hv:=rfl) (hp:=trivial)
theorem ac2{b:Nat}{v:Value}{xs:List Int}(hl:xs.length<9223372036854775808):qf Tryz.prog (λx:Int=>[iH x]) (.func 290) [] [ptr' b] [dF b 0 [v],ai ae v xs] (λys=>ys=xs):=by
 intro S inv ok step s0 sD y1 y2 F' h0 hok hy;rw[dn,dn,di];refine aS _ (aQ 290) λB w0=>?_;refine go ?_;refine bJ (λy:Nat×S=>xs.length - y.1) (λy=>[(7,.int .i64 (y.1:Int))]) (λy=>inv y.2) (λ_=>[]) (λy=>y.1<=xs.length/\ok (xs.take y.1) y.2/\fF step y.2 (xs.drop y.1)=fF step s0 xs) (0,s0) ⟨dD _,h0,rfl⟩ (body:=?_);rintro⟨k,s⟩ ⟨hk,hos,hrun⟩;dsimp only at hk hos hrun⊢;refine go ?_;refine aG rfl (λh1=>?_) (λh1=>?_)
 ·refine go ?_;intro _ _ x hx;have hd:xs.drop k=x::xs.drop (k+1):=by
   rw[rM (by omega)];congr 1;rw[dz (by omega)]at hx;exact Option.some.inj hx
  have hX:xs.take k++x::xs.drop (k+1)=xs:=by rw[<- hd,rH]
  have l7:=hy _ s _ _ hos hX;rw[hd,fF]at hrun;refine go ?_;refine ax l7 (next:=λ_ _=>?_);cases hst:(step s x).2 with
  |true=>
   have hs1:step s x=((step s x).1,true):=Prod.ext rfl hst;rw[hs1]at hrun;refine go ?_;refine bi (k+1,(step s x).1) (by show xs.length - (k+1)<xs.length - k;omega) ⟨by show k+1<=_;omega,?_,hrun⟩;show ok (xs.take (k+1)) _;rw[j4 hx];exact hok _ s _ _ hos hX hst
  |false=>
   have hs1:step s x=((step s x).1,false):=Prod.ext rfl hst;rw[hs1]at hrun;dsimp only at hrun;refine go ?_;exact aa xs (hv:=rfl) (hp:=rfl) (hk:=by rw[<- hrun];exact aM.all _)
 have hke:k=xs.length:=by omega
 subst hke;rw[List.drop_length]at hrun;refine go ?_;exact aa xs (hv:=rfl) (hp:=rfl) (hk:=by rw[<- hrun];exact aM.all _)
abbrev KX(P:Program)(fn:Fn)(first cap:List Value)(F:List aB)(p:List Int->Bool)(x:List Int):Prop:=
 ∀v:Value,aV P fn (first++[v]) cap [] (ai ae v x::F) (λ_:Unit=>.bool (p x)) (λ_=>[]) (λ_=>[]) (λ_=>True)
theorem ac3{fn:Fn}{first cap:List Value}{F1:List aB}{p:List Int->Bool}{va:Value}{xs:List (List Int)}(hl:xs.length<9223372036854775808)(hp:∀x∈xs,KX Tryz.prog fn first cap F1 p x):
 aV Tryz.prog (.func 291) [va,.func fn ⟨first⟩ ⟨cap⟩] [] [ap (aC ae) va xs] F1 (λr:Int=>.int .i64 r) (λ_=>[ap (aC ae) va xs]) (λ_=>[]) (λr=>(0<=r↔xs.any p=true)):=by
 refine aS _ (aQ 291) λB w0=>?_;refine Dg (E:=aC ae) (v:=va) (xs:=xs) λa hv=>?_;subst hv;refine go ?_;refine bJ (λk=>xs.length - k) (λk:Nat=>[(8,.int .i64 (k:Int))]) (λ_=>[]) (λ_=>[]) (λk=>k<=xs.length/\(xs.take k).any p=false) 0 ⟨by omega,by simp⟩ (body:=?_);rintro k ⟨hk,hno⟩;refine go ?_;refine aG rfl (λh1=>?_) (λh1=>?_)
 ·have hx:xs[k]? =some (xs[k]'(by omega)):=dz _;generalize xs[k]'(by omega)=x at hx;refine go ?_;refine QJ ae (v:=.slice a xs.length xs.length) (xss:=xs) k x hx (next:=λb o u=>?_);refine go ?_;refine ax (hp x (bG hx) u) (next:=λ_ _=>?_);refine go ?_;refine uj rfl (λh2=>?_) (λh2=>?_)
  ·refine go ?_;exact aa (k:Int) (hv:=rfl) (hp:=⟨λ_=>List.any_eq_true.2 ⟨x,bG hx,h2⟩,λ_=>by omega⟩)
  ·refine go ?_;refine bi (k+1) (by omega) ⟨by omega,?_⟩;rw[j4 hx,List.any_append,hno];simp[h2]
 refine go ?_;have:k=xs.length:=by omega
 subst this;rw[eB]at hno;exact aa (-1) (hv:=rfl) (hp:=⟨λh=>by omega,λh=>by rw[hno]at h;cases h⟩)
theorem ac4{fn:Fn}{first cap:List Value}{F1:List aB}{p:List Int->Bool}{va:Value}{xs:List (List Int)}(hl:xs.length<9223372036854775808)(hp:∀x∈xs,KX Tryz.prog fn first cap F1 p x):
 aV Tryz.prog (.func 256) [va,.func fn ⟨first⟩ ⟨cap⟩] [] [ap (aC ae) va xs] F1 (λ_:Unit=>.bool (xs.any p)) (λ_=>[ap (aC ae) va xs]) (λ_=>[]) (λ_=>True):=by
 refine aS _ (aQ 256) λB w0=>?_;refine go ?_;refine ax (ac3 hl hp) (next:=λr hr=>?_);refine go ?_;refine aa () (hv:=?_) (hp:=trivial);have:xs.any p=decide (0<=r):=by rw[uL,wU];exact hr.symm
 rw[this];rfl
theorem ac5{b:Nat}{vx:Value}{zs:List Int}(hl:zs.length<9223372036854775808)(ys:List Int):KX Tryz.prog (.func 257) [] [ptr' b] [dF b 0 [vx],ai ae vx zs] (λy=>decide (zs=y)) ys:=by
 intro v;rw[di];refine aS _ (aQ 257) λB w0=>?_;refine go ?_;refine ax (yD (xs:=zs) (ys:=ys) hl) (next:=λ_ _=>?_);refine go ?_;exact aa () (hv:=rfl) (hp:=trivial)
def Dp(g:bO)(r:lW):Prop:=(gH g/\yA g r.lists)/\(r.lists.map bY).Nodup
theorem ac6{d:bR}{vh vs vr vc vu gh gc:Value}{g:bO}(hS:nX d)(hG:wD g):
 aV Tryz.prog (.func 223) [.agg ⟨jY d vh vs vr vc vu⟩,.agg ⟨l6 g gh gc⟩] [] [] (ai iV vr d.regions::oZ g gh gc) (λe:Int=>.int .i64 e) (λ_=>[]) (λ_=>[]) (λe=>e=0↔∀r∈d.regions,Dp g r):=by
 have hrl:=hS.regs;refine aS _ (aQ 223) λB w0=>?_;refine fq (E:=iV) (v:=vr) (xs:=d.regions) (by simp) λar cr er=>?_;subst er;refine go ?_;intro b2 b3;refine aZ (fo (b:=b2)) (h:=?_);refine aZ (fo (b:=b3)) (h:=?_);refine go ?_;refine bJ (λk:Nat=>d.regions.length - k) (λk=>[(16,.int .i64 (k:Int))]) (λ_=>[]) (λ_=>[]) (λk=>k<=d.regions.length/\∀r∈d.regions.take k,Dp g r) 0 ⟨dD _,by simp⟩ (body:=?_);rintro k ⟨hk,hall⟩;refine go ?_;refine aG rfl (λh1=>?_) (λh1=>?_)
 ·refine go ?_;refine dm iV (xs:=d.regions) (next:=λ_ _ r (vl:Value) hr=>?_);have hrm:=bG hr;obtain⟨hl1,hl2⟩:=hS.uD r hrm;refine go ?_;intro b6;refine go ?_;refine ax (SN (g:=g) (vh:=gh) (vc:=gc) (vr:=vl) (rs:=r.lists) hG hl1 hl2) (next:=λy hy=>?_);obtain⟨v7,e⟩:=y;dsimp only at hy⊢;refine go ?_;refine aG rfl (λh2=>?_) (λh2=>?_)
  ·refine go ?_;exact aa e (hv:=rfl) (hp:=⟨(λh=>absurd h h2),λh=>absurd (hy.2 (h r hrm).1) h2⟩)
  have he:e=0:=nG.1 h2;obtain⟨hg,hro⟩:=hy.1 he;have hgl:=hg.len;have hrl2:=hro.len;refine fq (E:=aC ae) (v:=vl) (xs:=r.lists) (by simp) λal cl el=>?_;subst el;refine go ?_;refine mE (aC ae) ?_;refine bJ (λy:Nat×Value=>r.lists.length - y.1) (λy=>[(33,.int .i64 (y.1:Int)),(9,y.2)]) (λy=>[ap (aC ae) y.2 ((r.lists.take y.1).map bY)]) (λ_=>[]) (λy=>y.1<=r.lists.length/\((r.lists.take y.1).map bY).Nodup) (0,.slice none 0 0) ⟨dD _,by simp⟩ (hk:=by repeat (first|exact aM.nil|(apply aM.cons;(focus (repeat (first|exact aj.here|apply aj.there)))))) (body:=?_);rintro⟨j,v9⟩ ⟨hj,hnd⟩;dsimp only at hj hnd⊢;have hjl:((r.lists.take j).map bY).length=j:=by rw[bT,jE];omega
  refine go ?_;refine aG rfl (λh3=>?_) (λh3=>?_)
  ·refine go ?_;refine dm (aC ae) (xs:=r.lists) (next:=λ_ _ ps (vp:Value) hps=>?_);have hpm:=bG hps;have hP:=hro.all ps hpm;have hpl:ps.length<=256:=by have:=JW hP.mem hP.nd;omega
   refine go ?_;refine ax (ac1 (v:=vp) (xs:=ps)) (next:=λbv _=>?_);refine go ?_;refine ax (SI (ac2 (b:=bv) (v:=vp) (xs:=ps) (by omega)) (λys h=>by rw[h];omega)) (next:=λy hy2=>?_);obtain⟨v39,zs⟩:=y;dsimp only[List.cons_append,List.nil_append]at hy2⊢;subst hy2;have hzl:=x9 zs;refine aZ (kE (E:=ae) (v:=v39) (xs:=bY zs)) (h:=?_);refine fq (E:=ae) (v:=v39) (xs:=bY zs) (by simp) λa39 KY e39=>?_;subst e39;refine go ?_;intro b12;refine aZ (fo (b:=b12)) (h:=?_);refine go ?_;refine ax (ac4 (fn:=.func 257) (first:=[]) (cap:=[ptr' b12]) (F1:=[dF b12 0 [.slice a39 (bY zs).length KY],ai ae (.slice a39 (bY zs).length KY) (bY zs)]) (p:=λy=>decide (bY zs=y)) (va:=v9) (xs:=(r.lists.take j).map bY) (by omega) (λx _=>ac5 (by omega) x)) (next:=λ_ _=>?_);have htk:(r.lists.take (j+1)).map bY=(r.lists.take j).map bY++[bY zs]:=by rw[j4 hps,dM,rP]
   refine go ?_;refine uj rfl (λh4=>?_) (λh4=>?_)
   ·refine go ?_;refine aa 161 (hv:=rfl) (hp:=⟨(λh=>by cases h),λh=>?_⟩)
    exfalso
    have h5:=(h r hrm).2;have h6:((r.lists.take (j+1)).map bY).Nodup:=h5.sublist ((Mc _ _).map _);rw[htk,gM]at h6;obtain⟨x,hx,hx2⟩:=List.any_eq_true.1 h4;exact h6.2.2 x hx _ (bC.2 rfl) (iJ hx2).symm
   ·refine go ?_;intro b45;refine go ?_;refine kR (xs:=(r.lists.take j).map bY) (aC ae) (bY zs) (.slice a39 (bY zs).length KY) (by omega) (next:=λad=>?_);rw[<- htk];refine go ?_;refine bi (j+1,.slice ad (((r.lists.take j).map bY).length+1) (((r.lists.take j).map bY).length+1)) (by show r.lists.length - (j+1)<r.lists.length - j;omega) ⟨by show j+1<=_;omega,?_⟩;show((r.lists.take (j+1)).map bY).Nodup;rw[htk,gM];refine⟨hnd,by simp,λa ha b hb e=>?_⟩;rw[bC.1 hb]at e;subst e;rw[List.any_eq_false]at h4;exact h4 _ ha (dU rfl)
  have o8:j=r.lists.length:=by omega
  subst o8;rw[eB]at hnd;refine go ?_;refine bi (k+1) (by show d.regions.length - (k+1)<d.regions.length - k;omega) ⟨by omega,?_⟩;rw[j4 hr];intro x hx;rcases eZ.1 hx with hx|hx
  ·exact hall x hx
  ·rw[bC.1 hx];exact⟨⟨hg,hro⟩,hnd⟩
 have hke:k=d.regions.length:=by omega
 subst hke;rw[eB]at hall;refine go ?_;exact aa 0 (hv:=rfl) (hp:=⟨λ_=>hall,λ_=>rfl⟩)
structure SX(d:bR):Prop where
 s0:0<d.symbols.length
 s1:d.symbols.length<=16
 r:d.regions.length<=4
 c:d.bI.length<=4
 u:d.rules.length<=16
structure F5(d:bR):Prop where
 lim:SX d
 rs:AJ d
 same:Kd.cB d=d
 ver:1<=d.version/\d.version<=255
 Dq:oV d.shape d.w d.h d.holes
 F6:∀r∈d.regions,Dp (aX d) r
 form:KU d
 read:ko d.rules=[]
structure wH(d:bR):Prop where
 s:nX d
 w:jK d.w
 h:jK d.h
 holes:d.holes.length<4611686018427387904
theorem KZ{d:bR}(hm:oV d.shape d.w d.h d.holes):wD (aX d):=by
 have hb:=AL hm.wi hm.he;have h1:=hm.wi;have h2:=hm.he;have h3:=hm.len;have h4:=Fs (d.w*d.h).toNat d.holes;refine⟨?_,?_,?_,?_⟩
 ·show jK d.w;unfold jK;omega
 ·show jK d.h;unfold jK;omega
 ·show d.holes.length<_;omega
 ·show(nU d.w d.h d.holes).length<_;unfold nU;omega
abbrev tF(b:Nat)(d:bR)(vh vs vr vc vu:Value):List aB:=dF b 0 (jY d vh vs vr vc vu)::nT d vh vs vr vc vu
theorem ac8{b:Nat}{d:bR}{vh vs vr vc vu:Value}(hS:nX d):aV Tryz.prog (.func 217) [] [ptr' b] [] (tF b d vh vs vr vc vu) (λe:Int=>.int .i64 e) (λ_=>[]) (λ_=>[]) (λe=>e=0↔SX d):=by
 have hsl:=hS.dA;have hrl:=hS.regs;have hcl:=hS.jZ;have Kb:=hS.l5;refine aS _ (aQ 217) λB w0=>?_;refine go ?_;first|with_reducible refine aN (λh1=>?_) (λh1=>?_)|with_reducible refine aO (λh1=>?_) (λh1=>?_)|with_reducible refine aL (λh1=>?_) (λh1=>?_)
 ·refine go ?_;refine ax (nY (b:=false) (e:=2)) (next:=λ_ _=>?_);refine go ?_;refine aa _ (hv:=rfl) (hp:=⟨λh=>?_,λh=>?_⟩)
  ·cases h
  ·exact absurd h.s0 (by omega)
 refine go ?_;first|with_reducible refine aN (λh2=>?_) (λh2=>?_)|with_reducible refine aO (λh2=>?_) (λh2=>?_)|with_reducible refine aL (λh2=>?_) (λh2=>?_)
 ·refine go ?_;refine ax (nY (b:=false) (e:=2)) (next:=λ_ _=>?_);refine go ?_;refine aa _ (hv:=rfl) (hp:=⟨λh=>?_,λh=>?_⟩)
  ·cases h
  ·exact absurd h.s1 (by omega)
 refine go ?_;first|with_reducible refine aN (λh3=>?_) (λh3=>?_)|with_reducible refine aO (λh3=>?_) (λh3=>?_)|with_reducible refine aL (λh3=>?_) (λh3=>?_)
 ·refine go ?_;refine ax (nY (b:=false) (e:=2)) (next:=λ_ _=>?_);refine go ?_;refine aa _ (hv:=rfl) (hp:=⟨λh=>?_,λh=>?_⟩)
  ·cases h
  ·exact absurd h.r (by omega)
 refine go ?_;first|with_reducible refine aN (λh4=>?_) (λh4=>?_)|with_reducible refine aO (λh4=>?_) (λh4=>?_)|with_reducible refine aL (λh4=>?_) (λh4=>?_)
 ·refine go ?_;refine ax (nY (b:=false) (e:=2)) (next:=λ_ _=>?_);refine go ?_;refine aa _ (hv:=rfl) (hp:=⟨λh=>?_,λh=>?_⟩)
  ·cases h
  ·exact absurd h.c (by omega)
 refine go ?_;by_cases h5:d.rules.length<=16
 ·rw[show decide ((d.rules.length:Int)<=16)=true from dU (by omega)];refine ax (nY (b:=true) (e:=2)) (next:=λ_ _=>?_);refine go ?_;refine aa _ (hv:=rfl) (hp:=⟨λh=>?_,λh=>?_⟩)
  ·exact⟨by omega,by omega,by omega,by omega,h5⟩
  ·rfl
 ·rw[show decide ((d.rules.length:Int)<=16)=false from cO (by omega)];refine ax (nY (b:=false) (e:=2)) (next:=λ_ _=>?_);refine go ?_;refine aa _ (hv:=rfl) (hp:=⟨λh=>?_,λh=>?_⟩)
  ·cases h
  ·exact absurd h.u h5
theorem nX.cB{d:bR}(hS:nX d):nX (Kd.cB d):=by
 refine⟨hS.dA,hS.regs,?_,?_,?_,hS.holes,hS.uD⟩
 ·show(d.bI.map _).length<=_;rw[bT];exact hS.jZ
 ·show(d.rules.map _).length<=_;rw[bT];exact hS.l5
 ·intro r hr;obtain⟨q,hq,rfl⟩:=ed.1 (show r∈d.rules.map _ from hr);exact hS.uC q hq
theorem ac9{b:Nat}{d:bR}{vh vs vr vc vu:Value}(hS:nX d):aV Tryz.prog (.func 219) [] [ptr' b] [] (tF b d vh vs vr vc vu) (λe:Int=>.int .i64 e) (λ_=>[]) (λ_=>[]) (λe=>e=0↔AJ d/\Kd.cB d=d):=by
 refine aS _ (aQ 219) λB w0=>?_;refine go ?_;refine ax (R4 (d:=d) hS) (next:=λy hy=>?_);obtain⟨ok,e,v1,v2⟩:=y;dsimp only[wC,qx,AX]at hy⊢;cases ok with
 |false=>
  obtain⟨he,hno⟩:=hy.2 rfl;dsimp only[cond];refine go ?_;intro b2;refine go ?_;refine aG rfl (λh1=>?_) (λh1=>?_)
  ·refine go ?_;exact aa e (hv:=rfl) (hp:=⟨λh=>absurd h he,λh=>absurd h.1 hno⟩)
  ·exact absurd (nG.1 h1) he
 |true=>
  obtain⟨he,hres⟩:=hy.1 rfl;subst he;dsimp only[cond,List.cons_append,List.nil_append];refine go ?_;intro b2;refine go ?_;have hsy:dS Tryz.prog 105 [.agg ⟨jY (Kd.cB d) vh vs vr v1 v2⟩,.agg ⟨jY d vh vs vr vc vu⟩] [ai ae vh d.holes,ai jM vs d.symbols,ai iV vr d.regions,ai dH v1 (Kd.cB d).bI,ai bq v2 (Kd.cB d).rules,ai dH vc d.bI,ai bq vu d.rules] (.bool (decide (Kd.cB d=d))):=
   (Sb (x:=Kd.cB d) (y:=d) (h1:=vh) (s1:=vs) (r1:=vr) (c1:=v1) (u1:=v2) (h2:=vh) (s2:=vs) (r2:=vr) (c2:=vc) (u2:=vu) hS.cB).facts (λf hf=>by
     simp only[nT,dn,di,cK,DK,or_false]at hf⊢;rcases hf with rfl|rfl|rfl|rfl|rfl|rfl|rfl|rfl|rfl|rfl
     ·exact .inl rfl
     ·exact .inr (.inl rfl)
     ·exact .inr (.inr (.inl rfl))
     ·simp
     ·simp
     ·exact .inl rfl
     ·exact .inr (.inl rfl)
     ·exact .inr (.inr (.inl rfl))
     ·simp
     ·simp)
  refine ax hsy (next:=λ_ _=>?_);refine go ?_;by_cases hr:Kd.cB d=d
  ·rw[dU hr];refine ax (nY (b:=true) (e:=170)) (next:=λ_ _=>?_);refine go ?_;exact aa 0 (hv:=rfl) (hp:=⟨λ_=>⟨hres,hr⟩,λ_=>rfl⟩)
  ·rw[cO hr];refine ax (nY (b:=false) (e:=170)) (next:=λ_ _=>?_);refine go ?_;exact aa 170 (hv:=rfl) (hp:=⟨(λh=>by cases h),λh=>absurd h.2 hr⟩)
theorem ada{b:Nat}{d:bR}{vh vs vr vc vu:Value}:aV Tryz.prog (.func 220) [] [ptr' b] [] (tF b d vh vs vr vc vu) (λe:Int=>.int .i64 e) (λ_=>[]) (λ_=>[]) (λe=>e=0↔(1<=d.version/\d.version<=255)):=by
 refine aS _ (aQ 220) λB w0=>?_;refine go ?_;first|with_reducible refine aN (λh1=>?_) (λh1=>?_)|with_reducible refine aO (λh1=>?_) (λh1=>?_)|with_reducible refine aL (λh1=>?_) (λh1=>?_)
 ·refine go ?_;refine ax (nY (b:=false) (e:=170)) (next:=λ_ _=>?_);refine go ?_;exact aa 170 (hv:=rfl) (hp:=⟨(λh=>by cases h),λh=>by exfalso;omega⟩)
 refine go ?_;by_cases h2:d.version<=255
 ·rw[dU h2];refine ax (nY (b:=true) (e:=170)) (next:=λ_ _=>?_);refine go ?_;exact aa 0 (hv:=rfl) (hp:=⟨λ_=>⟨by omega,h2⟩,λ_=>rfl⟩)
 ·rw[cO h2];refine ax (nY (b:=false) (e:=170)) (next:=λ_ _=>?_);refine go ?_;exact aa 170 (hv:=rfl) (hp:=⟨(λh=>by cases h),λh=>absurd h.2 h2⟩)
theorem adb{b bg:Nat}{d:bR}{vh vs vr vc vu:Value}(hT:wH d):aV Tryz.prog (.func 221) [] [ptr' b,ptr' bg] [pt bg (.cells Df)] (tF b d vh vs vr vc vu) (λy:Kl=>.int .i64 (cond y.ok 0 130))
 (λy=>[pt bg (.cells (cond y.ok (l6 (yI d.shape d.w d.h d.holes) y.vh y.vc) Df))]) (sK d.shape d.w d.h d.holes) (λy=>y.ok=true↔oV d.shape d.w d.h d.holes):=by
 refine aS _ (aQ 221) λB w0=>?_;refine go ?_;refine ax (Km (s:=d.shape) (w:=d.w) (h:=d.h) (holes:=d.holes) (vh:=vh) hT.w hT.h hT.holes) (next:=λy hy=>?_);obtain⟨ok,v1,v2⟩:=y;cases ok with
 |false=>
  dsimp only[mkV,sK,cond,List.nil_append]at hy⊢;refine go ?_;exact aa ⟨false,v1,v2⟩ (hv:=rfl) (hp:=hy)
 |true=>
  dsimp only[mkV,sK,cond,oZ,yI,List.cons_append,List.nil_append]at hy⊢;refine go ?_;exact aa ⟨true,v1,v2⟩ (hv:=rfl) (hp:=hy) (hF:=by show Sub [ai ae v1 d.holes,ai ae v2 (nU d.w d.h d.holes)] _;exact .cons (by simp) (.cons (by simp) .nil))
theorem ade{b bg:Nat}{d:bR}{vh vs vr vc vu gh gc:Value}{g:bO}(hS:nX d)(hG:wD g):aV Tryz.prog (.func 222) [] [ptr' b,ptr' bg] [] (dF bg 0 (l6 g gh gc)::ai ae gh g.holes::ai ae gc g.cells::tF b d vh vs vr vc vu) (λe:Int=>.int .i64 e) (λ_=>[]) (λ_=>[]) (λe=>e=0↔∀r∈d.regions,Dp g r):=by
 refine aS _ (aQ 222) λB w0=>?_;refine go ?_;refine ax (ac6 (d:=d) (vh:=vh) (vs:=vs) (vr:=vr) (vc:=vc) (vu:=vu) (g:=g) (gh:=gh) (gc:=gc) hS hG) (next:=λe he=>?_);refine go ?_;exact aa e (hv:=rfl) (hp:=he)
theorem adf{b:Nat}{d:bR}{vh vs vr vc vu:Value}(hS:nX d):aV Tryz.prog (.func 224) [] [ptr' b] [] (tF b d vh vs vr vc vu) (λe:Int=>.int .i64 e) (λ_=>[]) (λ_=>[]) (λe=>e=0↔KU d):=by
 refine aS _ (aQ 224) λB w0=>?_;refine go ?_;refine ax (ac0 (d:=d) (vh:=vh) (vs:=vs) (vr:=vr) (vc:=vc) (vu:=vu) hS) (next:=λc hc=>?_);refine go ?_;refine ax (nY (b:=c) (e:=170)) (next:=λ_ _=>?_);refine go ?_;cases c with
 |false=>exact aa 170 (hv:=rfl) (hp:=⟨(λh=>by cases h),λh=>absurd (hc.2 h) (by simp)⟩)
 |true=>exact aa 0 (hv:=rfl) (hp:=⟨λ_=>hc.1 rfl,λ_=>rfl⟩)
theorem adg{b:Nat}{d:bR}{vh vs vr vc vu:Value}(hS:nX d):aV Tryz.prog (.func 226) [] [ptr' b] [] (tF b d vh vs vr vc vu) (λe:Int=>.int .i64 e) (λ_=>[]) (λ_=>[]) (λe=>e=0↔ko d.rules=[]):=by
 refine aS _ (aQ 226) λB w0=>?_;refine go ?_;refine ax (acJ (d:=d) (vh:=vh) (vs:=vs) (vr:=vr) (vc:=vc) (vu:=vu) hS.l5) (next:=λv _=>?_);refine go ?_;by_cases h:ko d.rules=[]
 ·rw[show decide (((ko d.rules).length:Int)=0)=true from dU (by rw[h];rfl)];refine ax (nY (b:=true) (e:=171)) (next:=λ_ _=>?_);refine go ?_;exact aa 0 (hv:=rfl) (hp:=⟨λ_=>h,λ_=>rfl⟩)
 ·rw[show decide (((ko d.rules).length:Int)=0)=false from cO (λe=>h (kW.1 (by omega)))];refine ax (nY (b:=false) (e:=171)) (next:=λ_ _=>?_);refine go ?_;exact aa 171 (hv:=rfl) (hp:=⟨(λh=>by cases h),λe=>absurd e h⟩)
theorem adh{d:bR}{vh vs vr vc vu:Value}(hT:wH d):aV Tryz.prog (.func 151) [.agg ⟨jY d vh vs vr vc vu⟩] [] [] (nT d vh vs vr vc vu) (λe:Int=>.int .i64 e) (λ_=>[]) (λ_=>[]) (λe=>e=0↔F5 d):=by
 have hS:=hT.s;refine aS _ (aQ 151) λB w0=>?_;refine go ?_;intro b1 b3 b14;refine aZ (fo (b:=b1)) (h:=?_);refine go ?_;refine ng ?_;refine go ?_;refine ax (ac8 (b:=b1) (d:=d) (vh:=vh) (vs:=vs) (vr:=vr) (vc:=vc) (vu:=vu) hS) (next:=λe he=>?_);refine go ?_;refine aG rfl (λhne=>?_) (λhz=>?_)
 ·refine go ?_;exact aa e (hv:=rfl) (hp:=⟨λh=>absurd h hne,λh=>absurd (he.2 h.lim) hne⟩)
 have k1:=he.1 (nG.1 hz);clear hz he;refine go ?_;refine ng ?_;refine go ?_;refine ax (ac9 (b:=b1) (d:=d) (vh:=vh) (vs:=vs) (vr:=vr) (vc:=vc) (vu:=vu) hS) (next:=λe he=>?_);refine go ?_;refine aG rfl (λhne=>?_) (λhz=>?_)
 ·refine go ?_;exact aa e (hv:=rfl) (hp:=⟨λh=>absurd h hne,λh=>absurd (he.2 ⟨h.rs,h.same⟩) hne⟩)
 have k2:=he.1 (nG.1 hz);clear hz he;refine go ?_;refine ng ?_;refine go ?_;refine ax (ada (b:=b1) (d:=d) (vh:=vh) (vs:=vs) (vr:=vr) (vc:=vc) (vu:=vu)) (next:=λe he=>?_);refine go ?_;refine aG rfl (λhne=>?_) (λhz=>?_)
 ·refine go ?_;exact aa e (hv:=rfl) (hp:=⟨λh=>absurd h hne,λh=>absurd (he.2 h.ver) hne⟩)
 have k3:=he.1 (nG.1 hz);clear hz he;refine go ?_;refine ng ?_;refine go ?_;refine ax (adb (b:=b1) (bg:=b3) (d:=d) (vh:=vh) (vs:=vs) (vr:=vr) (vc:=vc) (vu:=vu) hT) (next:=λy hy=>?_);obtain⟨ok,gh,gc⟩:=y;cases ok with
 |false=>
  dsimp only[cond,sK,List.cons_append,List.nil_append]at hy⊢;refine go ?_;exact aa 130 (hv:=rfl) (hp:=⟨(λh=>by cases h),λh=>absurd (hy.2 h.Dq) (by simp)⟩)
 |true=>
 have hmk:=hy.1 rfl;have hG:=KZ hmk;dsimp only[cond,sK];rw[show yI d.shape d.w d.h d.holes=aX d from rfl];dsimp only[oZ,List.cons_append,List.nil_append];refine aZ (fo (b:=b3)) (h:=?_);refine go ?_;refine ng ?_;refine go ?_;refine ax (ade (b:=b1) (bg:=b3) (d:=d) (vh:=vh) (vs:=vs) (vr:=vr) (vc:=vc) (vu:=vu) (g:=aX d) (gh:=gh) (gc:=gc) hS hG) (next:=λe he=>?_);refine go ?_;refine aG rfl (λhne=>?_) (λhz=>?_)
 ·refine go ?_;exact aa e (hv:=rfl) (hp:=⟨λh=>absurd h hne,λh=>absurd (he.2 h.F6) hne⟩)
 have k5:=he.1 (nG.1 hz);clear hz he;refine go ?_;refine ng ?_;refine go ?_;refine ax (adf (b:=b1) (d:=d) (vh:=vh) (vs:=vs) (vr:=vr) (vc:=vc) (vu:=vu) hS) (next:=λe he=>?_);refine go ?_;refine aG rfl (λhne=>?_) (λhz=>?_)
 ·refine go ?_;exact aa e (hv:=rfl) (hp:=⟨λh=>absurd h hne,λh=>absurd (he.2 h.form) hne⟩)
 have k6:=he.1 (nG.1 hz);clear hz he;refine go ?_;refine ng ?_;refine go ?_;refine ax (adg (b:=b1) (d:=d) (vh:=vh) (vs:=vs) (vr:=vr) (vc:=vc) (vu:=vu) hS) (next:=λe he=>?_);refine go ?_;refine aG rfl (λhne=>?_) (λhz=>?_)
 ·refine go ?_;exact aa e (hv:=rfl) (hp:=⟨λh=>absurd h hne,λh=>absurd (he.2 h.read) hne⟩)
 have k7:=he.1 (nG.1 hz);clear hz he;refine go ?_;refine ng ?_;refine go ?_;exact aa 0 (hv:=rfl) (hp:=⟨λ_=>⟨k1,k2.1,k2.2,k3,hmk,k5,k6,k7⟩,λ_=>rfl⟩)
