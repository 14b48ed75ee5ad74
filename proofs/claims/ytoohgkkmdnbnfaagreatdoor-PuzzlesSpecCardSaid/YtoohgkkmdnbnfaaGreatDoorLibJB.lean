/-
  Types: declarations that are well-formed.
-/
import Derived.Test.YtoohgkkmdnbnfaaGreatDoorLibIB
set_option linter.all false
set_option maxRecDepth 10000
set_option maxHeartbeats 4000000
namespace Go.Proofs.YtoohgkkmdnbnfaaGreatDoor
open Go.Ideal Kd
structure GJ(d:bq):Prop where
 dU:∀s∈d.symbols,0<=s.value/\s.value<=99
 ko:∀r∈d.rules,tY (gz r.kind) d.aF r
 ja:∀(i:Nat) (c:iP),d.aF[i]? =some c->(d.rules.map (·.aQ)).count (i:Int)=1/\qg c
theorem ade{d:bq}{vh vs vr vc vu:Value}(hS:lC d):
 aZ Tryz.prog (.func 225) [.agg ⟨fO d vh vs vr vc vu⟩] [] [] [ah fu vs d.symbols,ah bC vc d.aF,ah aW vu d.rules] (λb:Bool=>.bool b) (λ_=>[]) (λ_=>[]) (λb=>b=true↔GJ d):=by
 have hsl:=hS.dU;have hcl:=hS.ja;have xe:=hS.ko;refine aG _ (aM 225) λB w0=>?_;refine aT (E:=fu) (v:=vs) (xs:=d.symbols) (by simp) λnY cs1 es=>?_;subst es;refine aT (E:=bC) (v:=vc) (xs:=d.aF) (by simp) λac cc ec=>?_;subst ec;refine aT (E:=aW) (v:=vu) (xs:=d.rules) (by simp) λau cu eu=>?_;subst eu;refine go ?_;intro b1;refine bB (fG (b:=b1)) (h:=?_);refine go ?_;refine aX (λk:Nat=>d.symbols.length - k) (λk=>[(13,.int .i64 (k:Int))]) (λ_=>[]) (λ_=>[]) (λk=>k<=d.symbols.length/\∀s∈d.symbols.take k,0<=s.value/\s.value<=99) 0 ⟨bX _,by simp⟩ (body:=?_);rintro k ⟨hk,hall⟩;refine go ?_;refine az rfl (λh1=>?_) (λh1=>?_)
 ·refine go ?_;refine aY fu (xs:=d.symbols) (next:=λ_ _ s (_:Unit) hs=>?_);have hsm:=bJ hs;refine go ?_;intro b4;refine go ?_;first|with_reducible refine aL (λh2=>?_) (λh2=>?_)|with_reducible refine aK (λh2=>?_) (λh2=>?_)|with_reducible refine aI (λh2=>?_) (λh2=>?_)
  ·refine go ?_;refine az rfl (λh3=>?_) (λh3=>?_)
   ·refine go ?_;exact aa false (hv:=rfl) (hp:=⟨(λh=>by cases h),λh=>by exfalso;have:=h.dU s hsm;omega⟩)
   ·refine go ?_;refine aO (k+1) (by show d.symbols.length - (k+1)<d.symbols.length - k;omega) ⟨by omega,?_⟩;rw[bV hs];intro x hx;rcases dZ.1 hx with hx|hx
    ·exact hall x hx
    ·rw[bG.1 hx];omega
  ·refine go ?_;exact aa false (hv:=rfl) (hp:=⟨(λh=>by cases h),λh=>by exfalso;have:=h.dU s hsm;omega⟩)
 have hks:k=d.symbols.length:=by omega
 subst hks;rw[bK]at hall;refine go ?_;refine wS jc (λbm=>?_);refine go ?_;refine aX (λk:Nat=>d.rules.length - k) (λk=>[(30,.int .i64 (k:Int))]) (λk=>[gy jc bm (sH ((d.rules.take k).map (·.aQ)))]) (λ_=>[]) (λk=>k<=d.rules.length/\∀r∈d.rules.take k,tY (gz r.kind) d.aF r) 0 ⟨bX _,by simp⟩ (hk:=by repeat (first|exact aH.nil|(apply aH.cons;(focus (repeat (first|exact ay.here|apply ay.there)))))) (body:=?_);rintro k ⟨hk,zg⟩;have hcn:∀c:Int,((d.rules.take k).map (·.aQ)).count c<=4096:=λc=>by
  have:=Q7 c ((d.rules.take k).map (·.aQ));rw[di,gM]at this;omega
 refine go ?_;refine az rfl (λh1=>?_) (λh1=>?_)
 ·refine go ?_;refine aY aW (xs:=d.rules) (next:=λ_ _ r (vv:Value×Value) hr=>?_);have hrm:=bJ hr;have hrn:=hS.qc r hrm;refine go ?_;intro b7;refine go ?_;refine ak (adb (d:=d) (r:=r) (v1:=vv.1) (v2:=vv.2) hcl hrn.1 hrn.2) (next:=λb hb=>?_);cases b with
  |false=>
   refine go ?_;exact aa false (hv:=rfl) (hp:=⟨(λh=>by cases h),λh=>absurd (hb.2 (h.ko r hrm)) (by simp)⟩)
  |true=>
   have hR:=hb.1 rfl;have hc1:=hcn r.aQ;have hst:sH ((d.rules.take (k+1)).map (·.aQ))=upd r.aQ (.int .i64 ((((d.rules.take k).map (·.aQ)).count r.aQ:Nat)+1)) (sH ((d.rules.take k).map (·.aQ))):=by
    rw[bV hr,eX,sS,Q5]
   refine go ?_;refine DC (aV:=jc) (b:=bm) (ai:=sH ((d.rules.take k).map (·.aQ))) xk r.aQ ?_;rw[Q6];refine go ?_;refine uU (aV:=jc) (b:=bm) (v:=.int .i64 ((((d.rules.take k).map (·.aQ)).count r.aQ:Nat)+1)) (ai:=sH ((d.rules.take k).map (·.aQ))) xk r.aQ ?_;rw[<- hst];refine go ?_;refine aO (k+1) (by show d.rules.length - (k+1)<d.rules.length - k;omega) ⟨by omega,?_⟩;rw[bV hr];intro x hx;rcases dZ.1 hx with hx|hx
   ·exact zg x hx
   ·rw[bG.1 hx];exact hR
 have hkr:k=d.rules.length:=by omega
 subst hkr;rw[bK]at zg hcn⊢;refine go ?_;refine aX (λk:Nat=>d.aF.length - k) (λk=>[(47,.int .i64 (k:Int))]) (λ_=>[]) (λ_=>[]) (λk=>k<=d.aF.length/\∀(i:Nat) (c:iP),i<k->d.aF[i]? =some c->(d.rules.map (·.aQ)).count (i:Int)=1/\qg c) 0 ⟨bX _,λi c h=>by omega⟩ (body:=?_);rintro k ⟨hk,Eh⟩;refine go ?_;refine az rfl (λh1=>?_) (λh1=>?_)
 ·refine go ?_;refine aY bC (xs:=d.aF) (next:=λ_ _ c (_:Unit) hc=>?_);have hck:=hcn (k:Int);refine go ?_;intro b9;refine go ?_;refine DC (aV:=jc) (b:=bm) (ai:=sH (d.rules.map (·.aQ))) xk (k:Int) ?_;rw[Q6];refine go ?_;first|with_reducible refine aL (λh2=>?_) (λh2=>?_)|with_reducible refine aK (λh2=>?_) (λh2=>?_)|with_reducible refine aI (λh2=>?_) (λh2=>?_)
  ·refine go ?_;refine ak (acU (c:=c)) (next:=λ_ _=>?_);refine go ?_;refine ed rfl (λh3=>?_) (λh3=>?_)
   ·refine go ?_;exact aa false (hv:=rfl) (hp:=⟨(λh=>by cases h),λh=>absurd (h.ja k c hc).2 h3⟩)
   ·refine go ?_;refine aO (k+1) (by show d.aF.length - (k+1)<d.aF.length - k;omega) ⟨by omega,λi x hi hx=>?_⟩;by_cases hik:i=k
    ·subst hik;rw[hc]at hx;cases hx;exact⟨by omega,h3⟩
    ·exact Eh i x (by omega) hx
  ·refine go ?_;exact aa false (hv:=rfl) (hp:=⟨(λh=>by cases h),λh=>by exfalso;have:=(h.ja k c hc).1;omega⟩)
 have hkc:k=d.aF.length:=by omega
 subst hkc;refine go ?_;exact aa true (hv:=rfl) (hp:=⟨λ_=>⟨hall,zg,λi c hc=>Eh i c (bT.1 hc).1 hc⟩,λ_=>rfl⟩)
theorem adf{v:Value}{xs:List Int}:aZ Tryz.prog (.func 255) [v] [] [] [ah ae v xs] (λb:Nat=>.func (.func 290) #[] #[ptr' b]) (λ_=>[]) (λb=>[gH b 0 [v]]) (λ_=>True):=by
 refine aG _ (aM 255) λB w0=>?_;refine aT (E:=ae) (v:=v) (xs:=xs) (by simp) λa c e=>?_;subst e;refine go ?_;intro b1;refine go ?_;refine bB (fG (b:=b1)) (h:=?_);exact aa b1 (hv:=rfl) (hp:=trivial)
theorem adg{b:Nat}{v:Value}{xs:List Int}(hl:xs.length<9223372036854775808):qR Tryz.prog (λx:Int=>[jc x]) (.func 290) [] [ptr' b] [gH b 0 [v],ah ae v xs] (λys=>ys=xs):=by
 intro S inv ok step s0 Ar y1 y2 F' h0 hok hy;rw[eU,eU,dH];refine aG _ (aM 290) λB w0=>?_;refine go ?_;refine aX (λy:Nat×S=>xs.length - y.1) (λy=>[(7,.int .i64 (y.1:Int))]) (λy=>inv y.2) (λ_=>[]) (λy=>y.1<=xs.length/\ok (xs.take y.1) y.2/\jr step y.2 (xs.drop y.1)=jr step s0 xs) (0,s0) ⟨bX _,h0,rfl⟩ (body:=?_);rintro⟨k,s⟩ ⟨hk,hos,hrun⟩;dsimp only at hk hos hrun⊢;refine go ?_;refine az rfl (λh1=>?_) (λh1=>?_)
 ·refine go ?_;intro _ _ x hx;have hd:xs.drop k=x::xs.drop (k+1):=by
   rw[pz (by omega)];congr 1;rw[cK (by omega)]at hx;exact Option.some.inj hx
  have hX:xs.take k++x::xs.drop (k+1)=xs:=by rw[<- hd,uh]
  have vF:=hy _ s _ _ hos hX;rw[hd,jr]at hrun;refine go ?_;refine ak vF (next:=λ_ _=>?_);cases hst:(step s x).2 with
  |true=>
   have hs1:step s x=((step s x).1,true):=Prod.ext rfl hst;rw[hs1]at hrun;refine go ?_;refine aO (k+1,(step s x).1) (by show xs.length - (k+1)<xs.length - k;omega) ⟨by show k+1<=_;omega,?_,hrun⟩;show ok (xs.take (k+1)) _;rw[bV hx];exact hok _ s _ _ hos hX hst
  |false=>
   have hs1:step s x=((step s x).1,false):=Prod.ext rfl hst;rw[hs1]at hrun;dsimp only at hrun;refine go ?_;exact aa xs (hv:=rfl) (hp:=rfl) (hk:=by rw[<- hrun];exact aH.all _)
 have hke:k=xs.length:=by omega
 subst hke;rw[List.drop_length]at hrun;refine go ?_;exact aa xs (hv:=rfl) (hp:=rfl) (hk:=by rw[<- hrun];exact aH.all _)
abbrev LA(P:Program)(fn:Fn)(first cap:List Value)(F:List aJ)(p:List Int->Bool)(x:List Int):Prop:=
 ∀v:Value,aZ P fn (first++[v]) cap [] (ah ae v x::F) (λ_:Unit=>.bool (p x)) (λ_=>[]) (λ_=>[]) (λ_=>True)
theorem adh{fn:Fn}{first cap:List Value}{F1:List aJ}{p:List Int->Bool}{va:Value}{xs:List (List Int)}(hl:xs.length<9223372036854775808)(hp:∀x∈xs,LA Tryz.prog fn first cap F1 p x):
 aZ Tryz.prog (.func 291) [va,.func fn ⟨first⟩ ⟨cap⟩] [] [ap (aj ae) va xs] F1 (λr:Int=>.int .i64 r) (λ_=>[ap (aj ae) va xs]) (λ_=>[]) (λr=>(0<=r↔xs.any p=true)):=by
 refine aG _ (aM 291) λB w0=>?_;refine nX (E:=aj ae) (v:=va) (xs:=xs) λa hv=>?_;subst hv;refine go ?_;refine aX (λk=>xs.length - k) (λk:Nat=>[(8,.int .i64 (k:Int))]) (λ_=>[]) (λ_=>[]) (λk=>k<=xs.length/\(xs.take k).any p=false) 0 ⟨by omega,by simp⟩ (body:=?_);rintro k ⟨hk,hno⟩;refine go ?_;refine az rfl (λh1=>?_) (λh1=>?_)
 ·have hx:xs[k]? =some (xs[k]'(by omega)):=cK _;generalize xs[k]'(by omega)=x at hx;refine go ?_;refine F7 ae (v:=.slice a xs.length xs.length) (xss:=xs) k x hx (next:=λb o u=>?_);refine go ?_;refine ak (hp x (bJ hx) u) (next:=λ_ _=>?_);refine go ?_;refine jJ rfl (λh2=>?_) (λh2=>?_)
  ·refine go ?_;exact aa (k:Int) (hv:=rfl) (hp:=⟨λ_=>List.any_eq_true.2 ⟨x,bJ hx,h2⟩,λ_=>by omega⟩)
  ·refine go ?_;refine aO (k+1) (by omega) ⟨by omega,?_⟩;rw[bV hx,List.any_append,hno];simp[h2]
 refine go ?_;have:k=xs.length:=by omega
 subst this;rw[bK]at hno;exact aa (-1) (hv:=rfl) (hp:=⟨λh=>by omega,λh=>by rw[hno]at h;cases h⟩)
theorem adi{fn:Fn}{first cap:List Value}{F1:List aJ}{p:List Int->Bool}{va:Value}{xs:List (List Int)}(hl:xs.length<9223372036854775808)(hp:∀x∈xs,LA Tryz.prog fn first cap F1 p x):
 aZ Tryz.prog (.func 256) [va,.func fn ⟨first⟩ ⟨cap⟩] [] [ap (aj ae) va xs] F1 (λ_:Unit=>.bool (xs.any p)) (λ_=>[ap (aj ae) va xs]) (λ_=>[]) (λ_=>True):=by
 refine aG _ (aM 256) λB w0=>?_;refine go ?_;refine ak (adh hl hp) (next:=λr hr=>?_);refine go ?_;refine aa () (hv:=?_) (hp:=trivial);have:xs.any p=decide (0<=r):=by rw[xJ,Bt];exact hr.symm
 rw[this];rfl
theorem adj{b:Nat}{vx:Value}{zs:List Int}(hl:zs.length<9223372036854775808)(ys:List Int):LA Tryz.prog (.func 257) [] [ptr' b] [gH b 0 [vx],ah ae vx zs] (λy=>decide (zs=y)) ys:=by
 intro v;rw[dH];refine aG _ (aM 257) λB w0=>?_;refine go ?_;refine ak (y5 (xs:=zs) (ys:=ys) hl) (next:=λ_ _=>?_);refine go ?_;exact aa () (hv:=rfl) (hp:=trivial)
def xq(g:bz)(r:lc):Prop:=(fV g/\KC g r.lists)/\(r.lists.map cO).Nodup
theorem adk{d:bq}{vh vs vr vc vu gh gc:Value}{g:bz}(hS:lC d)(hG:oV g):
 aZ Tryz.prog (.func 223) [.agg ⟨fO d vh vs vr vc vu⟩,.agg ⟨iw g gh gc⟩] [] [] (ah dW vr d.regions::iV g gh gc) (λe:Int=>.int .i64 e) (λ_=>[]) (λ_=>[]) (λe=>e=0↔∀r∈d.regions,xq g r):=by
 have hrl:=hS.regs;refine aG _ (aM 223) λB w0=>?_;refine aT (E:=dW) (v:=vr) (xs:=d.regions) (by simp) λar cr er=>?_;subst er;refine go ?_;intro b2 b3;refine bB (fG (b:=b2)) (h:=?_);refine bB (fG (b:=b3)) (h:=?_);refine go ?_;refine aX (λk:Nat=>d.regions.length - k) (λk=>[(16,.int .i64 (k:Int))]) (λ_=>[]) (λ_=>[]) (λk=>k<=d.regions.length/\∀r∈d.regions.take k,xq g r) 0 ⟨bX _,by simp⟩ (body:=?_);rintro k ⟨hk,hall⟩;refine go ?_;refine az rfl (λh1=>?_) (λh1=>?_)
 ·refine go ?_;refine aY dW (xs:=d.regions) (next:=λ_ _ r (vl:Value) hr=>?_);have hrm:=bJ hr;obtain⟨hl1,hl2⟩:=hS.qd r hrm;refine go ?_;intro b6;refine go ?_;refine ak (Si (g:=g) (vh:=gh) (vc:=gc) (vr:=vl) (rs:=r.lists) hG hl1 hl2) (next:=λy hy=>?_);obtain⟨v7,e⟩:=y;dsimp only at hy⊢;refine go ?_;refine az rfl (λh2=>?_) (λh2=>?_)
  ·refine go ?_;exact aa e (hv:=rfl) (hp:=⟨(λh=>absurd h h2),λh=>absurd (hy.2 (h r hrm).1) h2⟩)
  have he:e=0:=iF.1 h2;obtain⟨hg,hro⟩:=hy.1 he;have hgl:=hg.len;have hrl2:=hro.len;refine aT (E:=aj ae) (v:=vl) (xs:=r.lists) (by simp) λal cl el=>?_;subst el;refine go ?_;refine gq (aj ae) ?_;refine aX (λy:Nat×Value=>r.lists.length - y.1) (λy=>[(33,.int .i64 (y.1:Int)),(9,y.2)]) (λy=>[ap (aj ae) y.2 ((r.lists.take y.1).map cO)]) (λ_=>[]) (λy=>y.1<=r.lists.length/\((r.lists.take y.1).map cO).Nodup) (0,.slice none 0 0) ⟨bX _,by simp⟩ (hk:=by repeat (first|exact aH.nil|(apply aH.cons;(focus (repeat (first|exact ay.here|apply ay.there)))))) (body:=?_);rintro⟨j,v9⟩ ⟨hj,hnd⟩;dsimp only at hj hnd⊢;have hjl:((r.lists.take j).map cO).length=j:=by rw[di,gM];omega
  refine go ?_;refine az rfl (λh3=>?_) (λh3=>?_)
  ·refine go ?_;refine aY (aj ae) (xs:=r.lists) (next:=λ_ _ ps (vp:Value) hps=>?_);have hpm:=bJ hps;have hP:=hro.all ps hpm;have hpl:ps.length<=256:=by have:=KD hP.mem hP.nd;omega
   refine go ?_;refine ak (adf (v:=vp) (xs:=ps)) (next:=λbv _=>?_);refine go ?_;refine ak (Sg (adg (b:=bv) (v:=vp) (xs:=ps) (by omega)) (λys h=>by rw[h];omega)) (next:=λy hy2=>?_);obtain⟨v39,zs⟩:=y;dsimp only[List.cons_append,List.nil_append]at hy2⊢;subst hy2;have hzl:=yP zs;refine bB (gp (E:=ae) (v:=v39) (xs:=cO zs)) (h:=?_);refine aT (E:=ae) (v:=v39) (xs:=cO zs) (by simp) λa39 LB e39=>?_;subst e39;refine go ?_;intro b12;refine bB (fG (b:=b12)) (h:=?_);refine go ?_;refine ak (adi (fn:=.func 257) (first:=[]) (cap:=[ptr' b12]) (F1:=[gH b12 0 [.slice a39 (cO zs).length LB],ah ae (.slice a39 (cO zs).length LB) (cO zs)]) (p:=λy=>decide (cO zs=y)) (va:=v9) (xs:=(r.lists.take j).map cO) (by omega) (λx _=>adj (by omega) x)) (next:=λ_ _=>?_);have htk:(r.lists.take (j+1)).map cO=(r.lists.take j).map cO++[cO zs]:=by rw[bV hps,eX,sS]
   refine go ?_;refine jJ rfl (λh4=>?_) (λh4=>?_)
   ·refine go ?_;refine aa 161 (hv:=rfl) (hp:=⟨(λh=>by cases h),λh=>?_⟩)
    exfalso
    have h5:=(h r hrm).2;have h6:((r.lists.take (j+1)).map cO).Nodup:=h5.sublist ((MG _ _).map _);rw[htk,iA]at h6;obtain⟨x,hx,hx2⟩:=List.any_eq_true.1 h4;exact h6.2.2 x hx _ (bG.2 rfl) (iB hx2).symm
   ·refine go ?_;intro b45;refine go ?_;refine fe (xs:=(r.lists.take j).map cO) (aj ae) (cO zs) (.slice a39 (cO zs).length LB) (by omega) (next:=λad=>?_);rw[<- htk];refine go ?_;refine aO (j+1,.slice ad (((r.lists.take j).map cO).length+1) (((r.lists.take j).map cO).length+1)) (by show r.lists.length - (j+1)<r.lists.length - j;omega) ⟨by show j+1<=_;omega,?_⟩;show((r.lists.take (j+1)).map cO).Nodup;rw[htk,iA];refine⟨hnd,by simp,λa ha b hb e=>?_⟩;rw[bG.1 hb]at e;subst e;rw[List.any_eq_false]at h4;exact h4 _ ha (eB rfl)
  have jM:j=r.lists.length:=by omega
  subst jM;rw[bK]at hnd;refine go ?_;refine aO (k+1) (by show d.regions.length - (k+1)<d.regions.length - k;omega) ⟨by omega,?_⟩;rw[bV hr];intro x hx;rcases dZ.1 hx with hx|hx
  ·exact hall x hx
  ·rw[bG.1 hx];exact⟨⟨hg,hro⟩,hnd⟩
 have hke:k=d.regions.length:=by omega
 subst hke;rw[bK]at hall;refine go ?_;exact aa 0 (hv:=rfl) (hp:=⟨λ_=>hall,λ_=>rfl⟩)
structure Sl(d:bq):Prop where
 s0:0<d.symbols.length
 s1:d.symbols.length<=16
 r:d.regions.length<=4
 c:d.aF.length<=4
 u:d.rules.length<=16
structure Ei(d:bq):Prop where
 lim:Sl d
 rs:AJ d
 same:Kd.bi d=d
 LC:1<=d.version/\d.version<=255
 A8:mU d.shape d.w d.h d.holes
 GK:∀r∈d.regions,xq (aP d) r
 form:GJ d
 read:iW d.rules=[]
structure sN(d:bq):Prop where
 s:lC d
 w:jK d.w
 h:jK d.h
 holes:d.holes.length<4611686018427387904
theorem Ej{d:bq}(hm:mU d.shape d.w d.h d.holes):oV (aP d):=by
 have hb:=uZ hm.wi hm.he;have h1:=hm.wi;have h2:=hm.he;have h3:=hm.len;have h4:=AL (d.w*d.h).toNat d.holes;refine⟨?_,?_,?_,?_⟩
 ·show jK d.w;unfold jK;omega
 ·show jK d.h;unfold jK;omega
 ·show d.holes.length<_;omega
 ·show(lm d.w d.h d.holes).length<_;unfold lm;omega
abbrev tF(b:Nat)(d:bq)(vh vs vr vc vu:Value):List aJ:=gH b 0 (fO d vh vs vr vc vu)::j6 d vh vs vr vc vu
theorem adl{b:Nat}{d:bq}{vh vs vr vc vu:Value}(hS:lC d):aZ Tryz.prog (.func 217) [] [ptr' b] [] (tF b d vh vs vr vc vu) (λe:Int=>.int .i64 e) (λ_=>[]) (λ_=>[]) (λe=>e=0↔Sl d):=by
 have hsl:=hS.dU;have hrl:=hS.regs;have hcl:=hS.ja;have xe:=hS.ko;refine aG _ (aM 217) λB w0=>?_;refine go ?_;first|with_reducible refine aL (λh1=>?_) (λh1=>?_)|with_reducible refine aK (λh1=>?_) (λh1=>?_)|with_reducible refine aI (λh1=>?_) (λh1=>?_)
 ·refine go ?_;refine ak (oW (b:=false) (e:=2)) (next:=λ_ _=>?_);refine go ?_;refine aa _ (hv:=rfl) (hp:=⟨λh=>?_,λh=>?_⟩)
  ·cases h
  ·exact absurd h.s0 (by omega)
 refine go ?_;first|with_reducible refine aL (λh2=>?_) (λh2=>?_)|with_reducible refine aK (λh2=>?_) (λh2=>?_)|with_reducible refine aI (λh2=>?_) (λh2=>?_)
 ·refine go ?_;refine ak (oW (b:=false) (e:=2)) (next:=λ_ _=>?_);refine go ?_;refine aa _ (hv:=rfl) (hp:=⟨λh=>?_,λh=>?_⟩)
  ·cases h
  ·exact absurd h.s1 (by omega)
 refine go ?_;first|with_reducible refine aL (λh3=>?_) (λh3=>?_)|with_reducible refine aK (λh3=>?_) (λh3=>?_)|with_reducible refine aI (λh3=>?_) (λh3=>?_)
 ·refine go ?_;refine ak (oW (b:=false) (e:=2)) (next:=λ_ _=>?_);refine go ?_;refine aa _ (hv:=rfl) (hp:=⟨λh=>?_,λh=>?_⟩)
  ·cases h
  ·exact absurd h.r (by omega)
 refine go ?_;first|with_reducible refine aL (λh4=>?_) (λh4=>?_)|with_reducible refine aK (λh4=>?_) (λh4=>?_)|with_reducible refine aI (λh4=>?_) (λh4=>?_)
 ·refine go ?_;refine ak (oW (b:=false) (e:=2)) (next:=λ_ _=>?_);refine go ?_;refine aa _ (hv:=rfl) (hp:=⟨λh=>?_,λh=>?_⟩)
  ·cases h
  ·exact absurd h.c (by omega)
 refine go ?_;by_cases h5:d.rules.length<=16
 ·rw[show decide ((d.rules.length:Int)<=16)=true from eB (by omega)];refine ak (oW (b:=true) (e:=2)) (next:=λ_ _=>?_);refine go ?_;refine aa _ (hv:=rfl) (hp:=⟨λh=>?_,λh=>?_⟩)
  ·exact⟨by omega,by omega,by omega,by omega,h5⟩
  ·rfl
 ·rw[show decide ((d.rules.length:Int)<=16)=false from aR (by omega)];refine ak (oW (b:=false) (e:=2)) (next:=λ_ _=>?_);refine go ?_;refine aa _ (hv:=rfl) (hp:=⟨λh=>?_,λh=>?_⟩)
  ·cases h
  ·exact absurd h.u h5
theorem lC.bi{d:bq}(hS:lC d):lC (Kd.bi d):=by
 refine⟨hS.dU,hS.regs,?_,?_,?_,hS.holes,hS.qd⟩
 ·show(d.aF.map _).length<=_;rw[di];exact hS.ja
 ·show(d.rules.map _).length<=_;rw[di];exact hS.ko
 ·intro r hr;obtain⟨q,hq,rfl⟩:=je.1 (show r∈d.rules.map _ from hr);exact hS.qc q hq
theorem adm{b:Nat}{d:bq}{vh vs vr vc vu:Value}(hS:lC d):aZ Tryz.prog (.func 219) [] [ptr' b] [] (tF b d vh vs vr vc vu) (λe:Int=>.int .i64 e) (λ_=>[]) (λ_=>[]) (λe=>e=0↔AJ d/\Kd.bi d=d):=by
 refine aG _ (aM 219) λB w0=>?_;refine go ?_;refine ak (RF (d:=d) hS) (next:=λy hy=>?_);obtain⟨ok,e,v1,v2⟩:=y;dsimp only[qb,mV,y7]at hy⊢;cases ok with
 |false=>
  obtain⟨he,hno⟩:=hy.2 rfl;dsimp only[cond];refine go ?_;intro b2;refine go ?_;refine az rfl (λh1=>?_) (λh1=>?_)
  ·refine go ?_;exact aa e (hv:=rfl) (hp:=⟨λh=>absurd h he,λh=>absurd h.1 hno⟩)
  ·exact absurd (iF.1 h1) he
 |true=>
  obtain⟨he,hres⟩:=hy.1 rfl;subst he;dsimp only[cond,List.cons_append,List.nil_append];refine go ?_;intro b2;refine go ?_;have hsy:bY Tryz.prog 105 [.agg ⟨fO (Kd.bi d) vh vs vr v1 v2⟩,.agg ⟨fO d vh vs vr vc vu⟩] [ah ae vh d.holes,ah fu vs d.symbols,ah dW vr d.regions,ah bC v1 (Kd.bi d).aF,ah aW v2 (Kd.bi d).rules,ah bC vc d.aF,ah aW vu d.rules] (.bool (decide (Kd.bi d=d))):=
   (RN (x:=Kd.bi d) (y:=d) (h1:=vh) (s1:=vs) (r1:=vr) (c1:=v1) (u1:=v2) (h2:=vh) (s2:=vs) (r2:=vr) (c2:=vc) (u2:=vu) hS.bi).facts (λf hf=>by
     simp only[j6,eU,dH,dF,List.not_mem_nil,or_false]at hf⊢;rcases hf with rfl|rfl|rfl|rfl|rfl|rfl|rfl|rfl|rfl|rfl
     ·exact .inl rfl
     ·exact .inr (.inl rfl)
     ·exact .inr (.inr (.inl rfl))
     ·simp
     ·simp
     ·exact .inl rfl
     ·exact .inr (.inl rfl)
     ·exact .inr (.inr (.inl rfl))
     ·simp
     ·simp)
  refine ak hsy (next:=λ_ _=>?_);refine go ?_;by_cases hr:Kd.bi d=d
  ·rw[eB hr];refine ak (oW (b:=true) (e:=170)) (next:=λ_ _=>?_);refine go ?_;exact aa 0 (hv:=rfl) (hp:=⟨λ_=>⟨hres,hr⟩,λ_=>rfl⟩)
  ·rw[aR hr];refine ak (oW (b:=false) (e:=170)) (next:=λ_ _=>?_);refine go ?_;exact aa 170 (hv:=rfl) (hp:=⟨(λh=>by cases h),λh=>absurd h.2 hr⟩)
theorem adn{b:Nat}{d:bq}{vh vs vr vc vu:Value}:aZ Tryz.prog (.func 220) [] [ptr' b] [] (tF b d vh vs vr vc vu) (λe:Int=>.int .i64 e) (λ_=>[]) (λ_=>[]) (λe=>e=0↔(1<=d.version/\d.version<=255)):=by
 refine aG _ (aM 220) λB w0=>?_;refine go ?_;first|with_reducible refine aL (λh1=>?_) (λh1=>?_)|with_reducible refine aK (λh1=>?_) (λh1=>?_)|with_reducible refine aI (λh1=>?_) (λh1=>?_)
 ·refine go ?_;refine ak (oW (b:=false) (e:=170)) (next:=λ_ _=>?_);refine go ?_;exact aa 170 (hv:=rfl) (hp:=⟨(λh=>by cases h),λh=>by exfalso;omega⟩)
 refine go ?_;by_cases h2:d.version<=255
 ·rw[eB h2];refine ak (oW (b:=true) (e:=170)) (next:=λ_ _=>?_);refine go ?_;exact aa 0 (hv:=rfl) (hp:=⟨λ_=>⟨by omega,h2⟩,λ_=>rfl⟩)
 ·rw[aR h2];refine ak (oW (b:=false) (e:=170)) (next:=λ_ _=>?_);refine go ?_;exact aa 170 (hv:=rfl) (hp:=⟨(λh=>by cases h),λh=>absurd h.2 h2⟩)
theorem ado{b bg:Nat}{d:bq}{vh vs vr vc vu:Value}(hT:sN d):aZ Tryz.prog (.func 221) [] [ptr' b,ptr' bg] [pt bg (.cells D6)] (tF b d vh vs vr vc vu) (λy:K7=>.int .i64 (cond y.ok 0 130))
 (λy=>[pt bg (.cells (cond y.ok (iw (tT d.shape d.w d.h d.holes) y.vh y.vc) D6))]) (nJ d.shape d.w d.h d.holes) (λy=>y.ok=true↔mU d.shape d.w d.h d.holes):=by
 refine aG _ (aM 221) λB w0=>?_;refine go ?_;refine ak (K8 (s:=d.shape) (w:=d.w) (h:=d.h) (holes:=d.holes) (vh:=vh) hT.w hT.h hT.holes) (next:=λy hy=>?_);obtain⟨ok,v1,v2⟩:=y;cases ok with
 |false=>
  dsimp only[mkV,nJ,cond,List.nil_append]at hy⊢;refine go ?_;exact aa ⟨false,v1,v2⟩ (hv:=rfl) (hp:=hy)
 |true=>
  dsimp only[mkV,nJ,cond,iV,tT,List.cons_append,List.nil_append]at hy⊢;refine go ?_;exact aa ⟨true,v1,v2⟩ (hv:=rfl) (hp:=hy) (hF:=by show Sub [ah ae v1 d.holes,ah ae v2 (lm d.w d.h d.holes)] _;exact .cons (by simp) (.cons (by simp) .nil))
theorem adp{b bg:Nat}{d:bq}{vh vs vr vc vu gh gc:Value}{g:bz}(hS:lC d)(hG:oV g):aZ Tryz.prog (.func 222) [] [ptr' b,ptr' bg] [] (gH bg 0 (iw g gh gc)::ah ae gh g.holes::ah ae gc g.cells::tF b d vh vs vr vc vu) (λe:Int=>.int .i64 e) (λ_=>[]) (λ_=>[]) (λe=>e=0↔∀r∈d.regions,xq g r):=by
 refine aG _ (aM 222) λB w0=>?_;refine go ?_;refine ak (adk (d:=d) (vh:=vh) (vs:=vs) (vr:=vr) (vc:=vc) (vu:=vu) (g:=g) (gh:=gh) (gc:=gc) hS hG) (next:=λe he=>?_);refine go ?_;exact aa e (hv:=rfl) (hp:=he)
theorem adq{b:Nat}{d:bq}{vh vs vr vc vu:Value}(hS:lC d):aZ Tryz.prog (.func 224) [] [ptr' b] [] (tF b d vh vs vr vc vu) (λe:Int=>.int .i64 e) (λ_=>[]) (λ_=>[]) (λe=>e=0↔GJ d):=by
 refine aG _ (aM 224) λB w0=>?_;refine go ?_;refine ak (ade (d:=d) (vh:=vh) (vs:=vs) (vr:=vr) (vc:=vc) (vu:=vu) hS) (next:=λc hc=>?_);refine go ?_;refine ak (oW (b:=c) (e:=170)) (next:=λ_ _=>?_);refine go ?_;cases c with
 |false=>exact aa 170 (hv:=rfl) (hp:=⟨(λh=>by cases h),λh=>absurd (hc.2 h) (by simp)⟩)
 |true=>exact aa 0 (hv:=rfl) (hp:=⟨λ_=>hc.1 rfl,λ_=>rfl⟩)
theorem adr{b:Nat}{d:bq}{vh vs vr vc vu:Value}(hS:lC d):aZ Tryz.prog (.func 226) [] [ptr' b] [] (tF b d vh vs vr vc vu) (λe:Int=>.int .i64 e) (λ_=>[]) (λ_=>[]) (λe=>e=0↔iW d.rules=[]):=by
 refine aG _ (aM 226) λB w0=>?_;refine go ?_;refine ak (acT (d:=d) (vh:=vh) (vs:=vs) (vr:=vr) (vc:=vc) (vu:=vu) hS.ko) (next:=λv _=>?_);refine go ?_;by_cases h:iW d.rules=[]
 ·rw[show decide (((iW d.rules).length:Int)=0)=true from eB (by rw[h];rfl)];refine ak (oW (b:=true) (e:=171)) (next:=λ_ _=>?_);refine go ?_;exact aa 0 (hv:=rfl) (hp:=⟨λ_=>h,λ_=>rfl⟩)
 ·rw[show decide (((iW d.rules).length:Int)=0)=false from aR (λe=>h (jl.1 (by omega)))];refine ak (oW (b:=false) (e:=171)) (next:=λ_ _=>?_);refine go ?_;exact aa 171 (hv:=rfl) (hp:=⟨(λh=>by cases h),λe=>absurd e h⟩)
theorem ads{d:bq}{vh vs vr vc vu:Value}(hT:sN d):aZ Tryz.prog (.func 151) [.agg ⟨fO d vh vs vr vc vu⟩] [] [] (j6 d vh vs vr vc vu) (λe:Int=>.int .i64 e) (λ_=>[]) (λ_=>[]) (λe=>e=0↔Ei d):=by
 have hS:=hT.s;refine aG _ (aM 151) λB w0=>?_;refine go ?_;intro b1 b3 b14;refine bB (fG (b:=b1)) (h:=?_);refine go ?_;refine jT ?_;refine go ?_;refine ak (adl (b:=b1) (d:=d) (vh:=vh) (vs:=vs) (vr:=vr) (vc:=vc) (vu:=vu) hS) (next:=λe he=>?_);refine go ?_;refine az rfl (λhne=>?_) (λhz=>?_)
 ·refine go ?_;exact aa e (hv:=rfl) (hp:=⟨λh=>absurd h hne,λh=>absurd (he.2 h.lim) hne⟩)
 have k1:=he.1 (iF.1 hz);clear hz he;refine go ?_;refine jT ?_;refine go ?_;refine ak (adm (b:=b1) (d:=d) (vh:=vh) (vs:=vs) (vr:=vr) (vc:=vc) (vu:=vu) hS) (next:=λe he=>?_);refine go ?_;refine az rfl (λhne=>?_) (λhz=>?_)
 ·refine go ?_;exact aa e (hv:=rfl) (hp:=⟨λh=>absurd h hne,λh=>absurd (he.2 ⟨h.rs,h.same⟩) hne⟩)
 have k2:=he.1 (iF.1 hz);clear hz he;refine go ?_;refine jT ?_;refine go ?_;refine ak (adn (b:=b1) (d:=d) (vh:=vh) (vs:=vs) (vr:=vr) (vc:=vc) (vu:=vu)) (next:=λe he=>?_);refine go ?_;refine az rfl (λhne=>?_) (λhz=>?_)
 ·refine go ?_;exact aa e (hv:=rfl) (hp:=⟨λh=>absurd h hne,λh=>absurd (he.2 h.LC) hne⟩)
 have k3:=he.1 (iF.1 hz);clear hz he;refine go ?_;refine jT ?_;refine go ?_;refine ak (ado (b:=b1) (bg:=b3) (d:=d) (vh:=vh) (vs:=vs) (vr:=vr) (vc:=vc) (vu:=vu) hT) (next:=λy hy=>?_);obtain⟨ok,gh,gc⟩:=y;cases ok with
 |false=>
  dsimp only[cond,nJ,List.cons_append,List.nil_append]at hy⊢;refine go ?_;exact aa 130 (hv:=rfl) (hp:=⟨(λh=>by cases h),λh=>absurd (hy.2 h.A8) (by simp)⟩)
 |true=>
 have hmk:=hy.1 rfl;have hG:=Ej hmk;dsimp only[cond,nJ];rw[show tT d.shape d.w d.h d.holes=aP d from rfl];dsimp only[iV,List.cons_append,List.nil_append];refine bB (fG (b:=b3)) (h:=?_);refine go ?_;refine jT ?_;refine go ?_;refine ak (adp (b:=b1) (bg:=b3) (d:=d) (vh:=vh) (vs:=vs) (vr:=vr) (vc:=vc) (vu:=vu) (g:=aP d) (gh:=gh) (gc:=gc) hS hG) (next:=λe he=>?_);refine go ?_;refine az rfl (λhne=>?_) (λhz=>?_)
 ·refine go ?_;exact aa e (hv:=rfl) (hp:=⟨λh=>absurd h hne,λh=>absurd (he.2 h.GK) hne⟩)
 have k5:=he.1 (iF.1 hz);clear hz he;refine go ?_;refine jT ?_;refine go ?_;refine ak (adq (b:=b1) (d:=d) (vh:=vh) (vs:=vs) (vr:=vr) (vc:=vc) (vu:=vu) hS) (next:=λe he=>?_);refine go ?_;refine az rfl (λhne=>?_) (λhz=>?_)
 ·refine go ?_;exact aa e (hv:=rfl) (hp:=⟨λh=>absurd h hne,λh=>absurd (he.2 h.form) hne⟩)
 have k6:=he.1 (iF.1 hz);clear hz he;refine go ?_;refine jT ?_;refine go ?_;refine ak (adr (b:=b1) (d:=d) (vh:=vh) (vs:=vs) (vr:=vr) (vc:=vc) (vu:=vu) hS) (next:=λe he=>?_);refine go ?_;refine az rfl (λhne=>?_) (λhz=>?_)
 ·refine go ?_;exact aa e (hv:=rfl) (hp:=⟨λh=>absurd h hne,λh=>absurd (he.2 h.read) hne⟩)
 have k7:=he.1 (iF.1 hz);clear hz he;refine go ?_;refine jT ?_;refine go ?_;exact aa 0 (hv:=rfl) (hp:=⟨λ_=>⟨k1,k2.1,k2.2,k3,hmk,k5,k6,k7⟩,λ_=>rfl⟩)
