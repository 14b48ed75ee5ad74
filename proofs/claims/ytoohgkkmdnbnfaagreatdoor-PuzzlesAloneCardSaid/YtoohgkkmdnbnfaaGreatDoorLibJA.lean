/-
  Types: declarations that are well-formed.
-/
import Derived.Test.YtoohgkkmdnbnfaaGreatDoorLibIA
set_option linter.all false
set_option maxRecDepth 10000
set_option maxHeartbeats 4000000
namespace Go.Proofs.YtoohgkkmdnbnfaaGreatDoor
open Go.Ideal Kd
structure Jd(d:bE):Prop where
 dP:∀s∈d.symbols,0<=s.value/\s.value<=99
 kG:∀r∈d.rules,qP (fQ r.kind) d.aJ r
 jv:∀(i:Nat) (c:iY),d.aJ[i]? =some c->(d.rules.map (·.aG)).count (i:Int)=1/\nY c
theorem afH{d:bE}{vh vs vr vc vu:Value}(hS:mq d):
 bi Tryz.prog (.func 225) [.agg ⟨gF d vh vs vr vc vu⟩] [] [] [ah fF vs d.symbols,ah bM vc d.aJ,ah aY vu d.rules] (λb:Bool=>.bool b) (λ_=>[]) (λ_=>[]) (λb=>b=true↔Jd d):=by
 have hsl:=hS.dP;have hcl:=hS.jv;have yG:=hS.kG;refine aK _ (aP 225) λB w0=>?_;refine aS (E:=fF) (v:=vs) (xs:=d.symbols) (by simp) λlV cs1 es=>?_;subst es;refine aS (E:=bM) (v:=vc) (xs:=d.aJ) (by simp) λac cc ec=>?_;subst ec;refine aS (E:=aY) (v:=vu) (xs:=d.rules) (by simp) λau cu eu=>?_;subst eu;refine go ?_;intro b1;refine bD (eO (b:=b1)) (h:=?_);refine go ?_;refine aZ (λk:Nat=>d.symbols.length - k) (λk=>[(13,.int .i64 (k:Int))]) (λ_=>[]) (λ_=>[]) (λk=>k<=d.symbols.length/\∀s∈d.symbols.take k,0<=s.value/\s.value<=99) 0 ⟨cz _,by simp⟩ (body:=?_);rintro k ⟨hk,hall⟩;refine go ?_;refine aA rfl (λh1=>?_) (λh1=>?_)
 ·refine go ?_;refine bz fF (xs:=d.symbols) (next:=λ_ _ s (_:Unit) hs=>?_);have hsm:=bG hs;refine go ?_;intro b4;refine go ?_;first|with_reducible refine aN (λh2=>?_) (λh2=>?_)|with_reducible refine aM (λh2=>?_) (λh2=>?_)|with_reducible refine aL (λh2=>?_) (λh2=>?_)
  ·refine go ?_;refine aA rfl (λh3=>?_) (λh3=>?_)
   ·refine go ?_;exact ae false (hv:=rfl) (hp:=⟨(λh=>by cases h),λh=>by exfalso;have:=h.dP s hsm;omega⟩)
   ·refine go ?_;refine aQ (k+1) (by show d.symbols.length - (k+1)<d.symbols.length - k;omega) ⟨by omega,?_⟩;rw[bY hs];intro x hx;rcases dV.1 hx with hx|hx
    ·exact hall x hx
    ·rw[bH.1 hx];omega
  ·refine go ?_;exact ae false (hv:=rfl) (hp:=⟨(λh=>by cases h),λh=>by exfalso;have:=h.dP s hsm;omega⟩)
 have hks:k=d.symbols.length:=by omega
 subst hks;rw[bK]at hall;refine go ?_;refine ym jG (λbm=>?_);refine go ?_;refine aZ (λk:Nat=>d.rules.length - k) (λk=>[(30,.int .i64 (k:Int))]) (λk=>[gP jG bm (tO ((d.rules.take k).map (·.aG)))]) (λ_=>[]) (λk=>k<=d.rules.length/\∀r∈d.rules.take k,qP (fQ r.kind) d.aJ r) 0 ⟨cz _,by simp⟩ (hk:=by repeat (first|exact aI.nil|(apply aI.cons;(focus (repeat (first|exact ay.here|apply ay.there)))))) (body:=?_);rintro k ⟨hk,Am⟩;have hcn:∀c:Int,((d.rules.take k).map (·.aG)).count c<=4096:=λc=>by
  have:=Tv c ((d.rules.take k).map (·.aG));rw[bR,gM]at this;omega
 refine go ?_;refine aA rfl (λh1=>?_) (λh1=>?_)
 ·refine go ?_;refine bz aY (xs:=d.rules) (next:=λ_ _ r (vv:Value×Value) hr=>?_);have hrm:=bG hr;have hrn:=hS.qM r hrm;refine go ?_;intro b7;refine go ?_;refine ax (afG (d:=d) (r:=r) (v1:=vv.1) (v2:=vv.2) hcl hrn.1 hrn.2) (next:=λb hb=>?_);cases b with
  |false=>
   refine go ?_;exact ae false (hv:=rfl) (hp:=⟨(λh=>by cases h),λh=>absurd (hb.2 (h.kG r hrm)) (by simp)⟩)
  |true=>
   have hR:=hb.1 rfl;have hc1:=hcn r.aG;have hst:tO ((d.rules.take (k+1)).map (·.aG))=upd r.aG (.int .i64 ((((d.rules.take k).map (·.aG)).count r.aG:Nat)+1)) (tO ((d.rules.take k).map (·.aG))):=by
    rw[bY hr,dW,oK,Tt]
   refine go ?_;refine EZ (aX:=jG) (b:=bm) (ai:=tO ((d.rules.take k).map (·.aG))) yH r.aG ?_;rw[Tu];refine go ?_;refine vZ (aX:=jG) (b:=bm) (v:=.int .i64 ((((d.rules.take k).map (·.aG)).count r.aG:Nat)+1)) (ai:=tO ((d.rules.take k).map (·.aG))) yH r.aG ?_;rw[<- hst];refine go ?_;refine aQ (k+1) (by show d.rules.length - (k+1)<d.rules.length - k;omega) ⟨by omega,?_⟩;rw[bY hr];intro x hx;rcases dV.1 hx with hx|hx
   ·exact Am x hx
   ·rw[bH.1 hx];exact hR
 have hkr:k=d.rules.length:=by omega
 subst hkr;rw[bK]at Am hcn⊢;refine go ?_;refine aZ (λk:Nat=>d.aJ.length - k) (λk=>[(47,.int .i64 (k:Int))]) (λ_=>[]) (λ_=>[]) (λk=>k<=d.aJ.length/\∀(i:Nat) (c:iY),i<k->d.aJ[i]? =some c->(d.rules.map (·.aG)).count (i:Int)=1/\nY c) 0 ⟨cz _,λi c h=>by omega⟩ (body:=?_);rintro k ⟨hk,FU⟩;refine go ?_;refine aA rfl (λh1=>?_) (λh1=>?_)
 ·refine go ?_;refine bz bM (xs:=d.aJ) (next:=λ_ _ c (_:Unit) hc=>?_);have hck:=hcn (k:Int);refine go ?_;intro b9;refine go ?_;refine EZ (aX:=jG) (b:=bm) (ai:=tO (d.rules.map (·.aG))) yH (k:Int) ?_;rw[Tu];refine go ?_;first|with_reducible refine aN (λh2=>?_) (λh2=>?_)|with_reducible refine aM (λh2=>?_) (λh2=>?_)|with_reducible refine aL (λh2=>?_) (λh2=>?_)
  ·refine go ?_;refine ax (afr (c:=c)) (next:=λ_ _=>?_);refine go ?_;refine eU rfl (λh3=>?_) (λh3=>?_)
   ·refine go ?_;exact ae false (hv:=rfl) (hp:=⟨(λh=>by cases h),λh=>absurd (h.jv k c hc).2 h3⟩)
   ·refine go ?_;refine aQ (k+1) (by show d.aJ.length - (k+1)<d.aJ.length - k;omega) ⟨by omega,λi x hi hx=>?_⟩;by_cases hik:i=k
    ·subst hik;rw[hc]at hx;cases hx;exact⟨by omega,h3⟩
    ·exact FU i x (by omega) hx
  ·refine go ?_;exact ae false (hv:=rfl) (hp:=⟨(λh=>by cases h),λh=>by exfalso;have:=(h.jv k c hc).1;omega⟩)
 have hkc:k=d.aJ.length:=by omega
 subst hkc;refine go ?_;exact ae true (hv:=rfl) (hp:=⟨λ_=>⟨hall,Am,λi c hc=>FU i c (bO.1 hc).1 hc⟩,λ_=>rfl⟩)
theorem afI{v:Value}{xs:List Int}:bi Tryz.prog (.func 255) [v] [] [] [ah aa v xs] (λb:Nat=>.func (.func 290) #[] #[ptr' b]) (λ_=>[]) (λb=>[eG b 0 [v]]) (λ_=>True):=by
 refine aK _ (aP 255) λB w0=>?_;refine aS (E:=aa) (v:=v) (xs:=xs) (by simp) λa c e=>?_;subst e;refine go ?_;intro b1;refine go ?_;refine bD (eO (b:=b1)) (h:=?_);exact ae b1 (hv:=rfl) (hp:=trivial)
theorem afJ{b:Nat}{v:Value}{xs:List Int}(hl:xs.length<9223372036854775808):rT Tryz.prog (λx:Int=>[jG x]) (.func 290) [] [ptr' b] [eG b 0 [v],ah aa v xs] (λys=>ys=xs):=by
 intro S inv ok step s0 uH y1 y2 F' h0 hok hy;rw[dD,dD,bX];refine aK _ (aP 290) λB w0=>?_;refine go ?_;refine aZ (λy:Nat×S=>xs.length - y.1) (λy=>[(7,.int .i64 (y.1:Int))]) (λy=>inv y.2) (λ_=>[]) (λy=>y.1<=xs.length/\ok (xs.take y.1) y.2/\gT step y.2 (xs.drop y.1)=gT step s0 xs) (0,s0) ⟨cz _,h0,rfl⟩ (body:=?_);rintro⟨k,s⟩ ⟨hk,hos,hrun⟩;dsimp only at hk hos hrun⊢;refine go ?_;refine aA rfl (λh1=>?_) (λh1=>?_)
 ·refine go ?_;intro _ _ x hx;have hd:xs.drop k=x::xs.drop (k+1):=by
   rw[oI (by omega)];congr 1;rw[cB (by omega)]at hx;exact Option.some.inj hx
  have hX:xs.take k++x::xs.drop (k+1)=xs:=by rw[<- hd,rq]
  have nX:=hy _ s _ _ hos hX;rw[hd,gT]at hrun;refine go ?_;refine ax nX (next:=λ_ _=>?_);cases hst:(step s x).2 with
  |true=>
   have hs1:step s x=((step s x).1,true):=Prod.ext rfl hst;rw[hs1]at hrun;refine go ?_;refine aQ (k+1,(step s x).1) (by show xs.length - (k+1)<xs.length - k;omega) ⟨by show k+1<=_;omega,?_,hrun⟩;show ok (xs.take (k+1)) _;rw[bY hx];exact hok _ s _ _ hos hX hst
  |false=>
   have hs1:step s x=((step s x).1,false):=Prod.ext rfl hst;rw[hs1]at hrun;dsimp only at hrun;refine go ?_;exact ae xs (hv:=rfl) (hp:=rfl) (hk:=by rw[<- hrun];exact aI.all _)
 have hke:k=xs.length:=by omega
 subst hke;rw[List.drop_length]at hrun;refine go ?_;exact ae xs (hv:=rfl) (hp:=rfl) (hk:=by rw[<- hrun];exact aI.all _)
abbrev Nz(P:Program)(fn:Fn)(first cap:List Value)(F:List aH)(p:List Int->Bool)(x:List Int):Prop:=
 ∀v:Value,bi P fn (first++[v]) cap [] (ah aa v x::F) (λ_:Unit=>.bool (p x)) (λ_=>[]) (λ_=>[]) (λ_=>True)
theorem afK{fn:Fn}{first cap:List Value}{F1:List aH}{p:List Int->Bool}{va:Value}{xs:List (List Int)}(hl:xs.length<9223372036854775808)(hp:∀x∈xs,Nz Tryz.prog fn first cap F1 p x):
 bi Tryz.prog (.func 291) [va,.func fn ⟨first⟩ ⟨cap⟩] [] [ap (aj aa) va xs] F1 (λr:Int=>.int .i64 r) (λ_=>[ap (aj aa) va xs]) (λ_=>[]) (λr=>(0<=r↔xs.any p=true)):=by
 refine aK _ (aP 291) λB w0=>?_;refine o9 (E:=aj aa) (v:=va) (xs:=xs) λa hv=>?_;subst hv;refine go ?_;refine aZ (λk=>xs.length - k) (λk:Nat=>[(8,.int .i64 (k:Int))]) (λ_=>[]) (λ_=>[]) (λk=>k<=xs.length/\(xs.take k).any p=false) 0 ⟨by omega,by simp⟩ (body:=?_);rintro k ⟨hk,hno⟩;refine go ?_;refine aA rfl (λh1=>?_) (λh1=>?_)
 ·have hx:xs[k]? =some (xs[k]'(by omega)):=cB _;generalize xs[k]'(by omega)=x at hx;refine go ?_;refine Ij aa (v:=.slice a xs.length xs.length) (xss:=xs) k x hx (next:=λb o u=>?_);refine go ?_;refine ax (hp x (bG hx) u) (next:=λ_ _=>?_);refine go ?_;refine j6 rfl (λh2=>?_) (λh2=>?_)
  ·refine go ?_;exact ae (k:Int) (hv:=rfl) (hp:=⟨λ_=>List.any_eq_true.2 ⟨x,bG hx,h2⟩,λ_=>by omega⟩)
  ·refine go ?_;refine aQ (k+1) (by omega) ⟨by omega,?_⟩;rw[bY hx,List.any_append,hno];simp[h2]
 refine go ?_;have:k=xs.length:=by omega
 subst this;rw[bK]at hno;exact ae (-1) (hv:=rfl) (hp:=⟨λh=>by omega,λh=>by rw[hno]at h;cases h⟩)
theorem afL{fn:Fn}{first cap:List Value}{F1:List aH}{p:List Int->Bool}{va:Value}{xs:List (List Int)}(hl:xs.length<9223372036854775808)(hp:∀x∈xs,Nz Tryz.prog fn first cap F1 p x):
 bi Tryz.prog (.func 256) [va,.func fn ⟨first⟩ ⟨cap⟩] [] [ap (aj aa) va xs] F1 (λ_:Unit=>.bool (xs.any p)) (λ_=>[ap (aj aa) va xs]) (λ_=>[]) (λ_=>True):=by
 refine aK _ (aP 256) λB w0=>?_;refine go ?_;refine ax (afK hl hp) (next:=λr hr=>?_);refine go ?_;refine ae () (hv:=?_) (hp:=trivial);have:xs.any p=decide (0<=r):=by rw[wX,y8];exact hr.symm
 rw[this];rfl
theorem afM{b:Nat}{vx:Value}{zs:List Int}(hl:zs.length<9223372036854775808)(ys:List Int):Nz Tryz.prog (.func 257) [] [ptr' b] [eG b 0 [vx],ah aa vx zs] (λy=>decide (zs=y)) ys:=by
 intro v;rw[bX];refine aK _ (aP 257) λB w0=>?_;refine go ?_;refine ax (Af (xs:=zs) (ys:=ys) hl) (next:=λ_ _=>?_);refine go ?_;exact ae () (hv:=rfl) (hp:=trivial)
def yK(g:bA)(r:mg):Prop:=(fq g/\wG g r.lists)/\(r.lists.map di).Nodup
theorem afN{d:bE}{vh vs vr vc vu gh gc:Value}{g:bA}(hS:mq d)(hG:qd g):
 bi Tryz.prog (.func 223) [.agg ⟨gF d vh vs vr vc vu⟩,.agg ⟨iM g gh gc⟩] [] [] (ah eH vr d.regions::jy g gh gc) (λe:Int=>.int .i64 e) (λ_=>[]) (λ_=>[]) (λe=>e=0↔∀r∈d.regions,yK g r):=by
 have hrl:=hS.regs;refine aK _ (aP 223) λB w0=>?_;refine aS (E:=eH) (v:=vr) (xs:=d.regions) (by simp) λar cr er=>?_;subst er;refine go ?_;intro b2 b3;refine bD (eO (b:=b2)) (h:=?_);refine bD (eO (b:=b3)) (h:=?_);refine go ?_;refine aZ (λk:Nat=>d.regions.length - k) (λk=>[(16,.int .i64 (k:Int))]) (λ_=>[]) (λ_=>[]) (λk=>k<=d.regions.length/\∀r∈d.regions.take k,yK g r) 0 ⟨cz _,by simp⟩ (body:=?_);rintro k ⟨hk,hall⟩;refine go ?_;refine aA rfl (λh1=>?_) (λh1=>?_)
 ·refine go ?_;refine bz eH (xs:=d.regions) (next:=λ_ _ r (vl:Value) hr=>?_);have hrm:=bG hr;obtain⟨hl1,hl2⟩:=hS.qN r hrm;refine go ?_;intro b6;refine go ?_;refine ax (UR (g:=g) (vh:=gh) (vc:=gc) (vr:=vl) (rs:=r.lists) hG hl1 hl2) (next:=λy hy=>?_);obtain⟨v7,e⟩:=y;dsimp only at hy⊢;refine go ?_;refine aA rfl (λh2=>?_) (λh2=>?_)
  ·refine go ?_;exact ae e (hv:=rfl) (hp:=⟨(λh=>absurd h h2),λh=>absurd (hy.2 (h r hrm).1) h2⟩)
  have he:e=0:=iO.1 h2;obtain⟨hg,hro⟩:=hy.1 he;have hgl:=hg.len;have hrl2:=hro.len;refine aS (E:=aj aa) (v:=vl) (xs:=r.lists) (by simp) λal cl el=>?_;subst el;refine go ?_;refine gI (aj aa) ?_;refine aZ (λy:Nat×Value=>r.lists.length - y.1) (λy=>[(33,.int .i64 (y.1:Int)),(9,y.2)]) (λy=>[ap (aj aa) y.2 ((r.lists.take y.1).map di)]) (λ_=>[]) (λy=>y.1<=r.lists.length/\((r.lists.take y.1).map di).Nodup) (0,.slice none 0 0) ⟨cz _,by simp⟩ (hk:=by repeat (first|exact aI.nil|(apply aI.cons;(focus (repeat (first|exact ay.here|apply ay.there)))))) (body:=?_);rintro⟨j,v9⟩ ⟨hj,hnd⟩;dsimp only at hj hnd⊢;have hjl:((r.lists.take j).map di).length=j:=by rw[bR,gM];omega
  refine go ?_;refine aA rfl (λh3=>?_) (λh3=>?_)
  ·refine go ?_;refine bz (aj aa) (xs:=r.lists) (next:=λ_ _ ps (vp:Value) hps=>?_);have hpm:=bG hps;have hP:=hro.all ps hpm;have hpl:ps.length<=256:=by have:=IC hP.mem hP.nd;omega
   refine go ?_;refine ax (afI (v:=vp) (xs:=ps)) (next:=λbv _=>?_);refine go ?_;refine ax (UQ (afJ (b:=bv) (v:=vp) (xs:=ps) (by omega)) (λys h=>by rw[h];omega)) (next:=λy hy2=>?_);obtain⟨v39,zs⟩:=y;dsimp only[List.cons_append,List.nil_append]at hy2⊢;subst hy2;have hzl:=zS zs;refine bD (gH (E:=aa) (v:=v39) (xs:=di zs)) (h:=?_);refine aS (E:=aa) (v:=v39) (xs:=di zs) (by simp) λa39 NA e39=>?_;subst e39;refine go ?_;intro b12;refine bD (eO (b:=b12)) (h:=?_);refine go ?_;refine ax (afL (fn:=.func 257) (first:=[]) (cap:=[ptr' b12]) (F1:=[eG b12 0 [.slice a39 (di zs).length NA],ah aa (.slice a39 (di zs).length NA) (di zs)]) (p:=λy=>decide (di zs=y)) (va:=v9) (xs:=(r.lists.take j).map di) (by omega) (λx _=>afM (by omega) x)) (next:=λ_ _=>?_);have htk:(r.lists.take (j+1)).map di=(r.lists.take j).map di++[di zs]:=by rw[bY hps,dW,oK]
   refine go ?_;refine j6 rfl (λh4=>?_) (λh4=>?_)
   ·refine go ?_;refine ae 161 (hv:=rfl) (hp:=⟨(λh=>by cases h),λh=>?_⟩)
    exfalso
    have h5:=(h r hrm).2;have h6:((r.lists.take (j+1)).map di).Nodup:=h5.sublist ((OC _ _).map _);rw[htk,iN]at h6;obtain⟨x,hx,hx2⟩:=List.any_eq_true.1 h4;exact h6.2.2 x hx _ (bH.2 rfl) (gY hx2).symm
   ·refine go ?_;intro b45;refine go ?_;refine fC (xs:=(r.lists.take j).map di) (aj aa) (di zs) (.slice a39 (di zs).length NA) (by omega) (next:=λad=>?_);rw[<- htk];refine go ?_;refine aQ (j+1,.slice ad (((r.lists.take j).map di).length+1) (((r.lists.take j).map di).length+1)) (by show r.lists.length - (j+1)<r.lists.length - j;omega) ⟨by show j+1<=_;omega,?_⟩;show((r.lists.take (j+1)).map di).Nodup;rw[htk,iN];refine⟨hnd,by simp,λa ha b hb e=>?_⟩;rw[bH.1 hb]at e;subst e;rw[List.any_eq_false]at h4;exact h4 _ ha (dZ rfl)
  have jO:j=r.lists.length:=by omega
  subst jO;rw[bK]at hnd;refine go ?_;refine aQ (k+1) (by show d.regions.length - (k+1)<d.regions.length - k;omega) ⟨by omega,?_⟩;rw[bY hr];intro x hx;rcases dV.1 hx with hx|hx
  ·exact hall x hx
  ·rw[bH.1 hx];exact⟨⟨hg,hro⟩,hnd⟩
 have hke:k=d.regions.length:=by omega
 subst hke;rw[bK]at hall;refine go ?_;exact ae 0 (hv:=rfl) (hp:=⟨λ_=>hall,λ_=>rfl⟩)
structure UX(d:bE):Prop where
 s0:0<d.symbols.length
 s1:d.symbols.length<=16
 r:d.regions.length<=4
 c:d.aJ.length<=4
 u:d.rules.length<=16
structure FV(d:bE):Prop where
 lim:UX d
 rs:Cg d
 same:Kd.bF d=d
 NB:1<=d.version/\d.version<=255
 Cu:nT d.shape d.w d.h d.holes
 Ao:∀r∈d.regions,yK (aO d) r
 form:Jd d
 read:jh d.rules=[]
structure tY(d:bE):Prop where
 s:mq d
 w:jU d.w
 h:jU d.h
 holes:d.holes.length<4611686018427387904
theorem FW{d:bE}(hm:nT d.shape d.w d.h d.holes):qd (aO d):=by
 have hb:=wy hm.wi hm.he;have h1:=hm.wi;have h2:=hm.he;have h3:=hm.len;have h4:=Ch (d.w*d.h).toNat d.holes;refine⟨?_,?_,?_,?_⟩
 ·show jU d.w;unfold jU;omega
 ·show jU d.h;unfold jU;omega
 ·show d.holes.length<_;omega
 ·show(mi d.w d.h d.holes).length<_;unfold mi;omega
abbrev tF(b:Nat)(d:bE)(vh vs vr vc vu:Value):List aH:=eG b 0 (gF d vh vs vr vc vu)::kT d vh vs vr vc vu
theorem afO{b:Nat}{d:bE}{vh vs vr vc vu:Value}(hS:mq d):bi Tryz.prog (.func 217) [] [ptr' b] [] (tF b d vh vs vr vc vu) (λe:Int=>.int .i64 e) (λ_=>[]) (λ_=>[]) (λe=>e=0↔UX d):=by
 have hsl:=hS.dP;have hrl:=hS.regs;have hcl:=hS.jv;have yG:=hS.kG;refine aK _ (aP 217) λB w0=>?_;refine go ?_;first|with_reducible refine aN (λh1=>?_) (λh1=>?_)|with_reducible refine aM (λh1=>?_) (λh1=>?_)|with_reducible refine aL (λh1=>?_) (λh1=>?_)
 ·refine go ?_;refine ax (qf (b:=false) (e:=2)) (next:=λ_ _=>?_);refine go ?_;refine ae _ (hv:=rfl) (hp:=⟨λh=>?_,λh=>?_⟩)
  ·cases h
  ·exact absurd h.s0 (by omega)
 refine go ?_;first|with_reducible refine aN (λh2=>?_) (λh2=>?_)|with_reducible refine aM (λh2=>?_) (λh2=>?_)|with_reducible refine aL (λh2=>?_) (λh2=>?_)
 ·refine go ?_;refine ax (qf (b:=false) (e:=2)) (next:=λ_ _=>?_);refine go ?_;refine ae _ (hv:=rfl) (hp:=⟨λh=>?_,λh=>?_⟩)
  ·cases h
  ·exact absurd h.s1 (by omega)
 refine go ?_;first|with_reducible refine aN (λh3=>?_) (λh3=>?_)|with_reducible refine aM (λh3=>?_) (λh3=>?_)|with_reducible refine aL (λh3=>?_) (λh3=>?_)
 ·refine go ?_;refine ax (qf (b:=false) (e:=2)) (next:=λ_ _=>?_);refine go ?_;refine ae _ (hv:=rfl) (hp:=⟨λh=>?_,λh=>?_⟩)
  ·cases h
  ·exact absurd h.r (by omega)
 refine go ?_;first|with_reducible refine aN (λh4=>?_) (λh4=>?_)|with_reducible refine aM (λh4=>?_) (λh4=>?_)|with_reducible refine aL (λh4=>?_) (λh4=>?_)
 ·refine go ?_;refine ax (qf (b:=false) (e:=2)) (next:=λ_ _=>?_);refine go ?_;refine ae _ (hv:=rfl) (hp:=⟨λh=>?_,λh=>?_⟩)
  ·cases h
  ·exact absurd h.c (by omega)
 refine go ?_;by_cases h5:d.rules.length<=16
 ·rw[show decide ((d.rules.length:Int)<=16)=true from dZ (by omega)];refine ax (qf (b:=true) (e:=2)) (next:=λ_ _=>?_);refine go ?_;refine ae _ (hv:=rfl) (hp:=⟨λh=>?_,λh=>?_⟩)
  ·exact⟨by omega,by omega,by omega,by omega,h5⟩
  ·rfl
 ·rw[show decide ((d.rules.length:Int)<=16)=false from aT (by omega)];refine ax (qf (b:=false) (e:=2)) (next:=λ_ _=>?_);refine go ?_;refine ae _ (hv:=rfl) (hp:=⟨λh=>?_,λh=>?_⟩)
  ·cases h
  ·exact absurd h.u h5
theorem mq.bF{d:bE}(hS:mq d):mq (Kd.bF d):=by
 refine⟨hS.dP,hS.regs,?_,?_,?_,hS.holes,hS.qN⟩
 ·show(d.aJ.map _).length<=_;rw[bR];exact hS.jv
 ·show(d.rules.map _).length<=_;rw[bR];exact hS.kG
 ·intro r hr;obtain⟨q,hq,rfl⟩:=fo.1 (show r∈d.rules.map _ from hr);exact hS.qM q hq
theorem afP{b:Nat}{d:bE}{vh vs vr vc vu:Value}(hS:mq d):bi Tryz.prog (.func 219) [] [ptr' b] [] (tF b d vh vs vr vc vu) (λe:Int=>.int .i64 e) (λ_=>[]) (λ_=>[]) (λe=>e=0↔Cg d/\Kd.bF d=d):=by
 refine aK _ (aP 219) λB w0=>?_;refine go ?_;refine ax (Uq (d:=d) hS) (next:=λy hy=>?_);obtain⟨ok,e,v1,v2⟩:=y;dsimp only[qL,nW,Ag]at hy⊢;cases ok with
 |false=>
  obtain⟨he,hno⟩:=hy.2 rfl;dsimp only[cond];refine go ?_;intro b2;refine go ?_;refine aA rfl (λh1=>?_) (λh1=>?_)
  ·refine go ?_;exact ae e (hv:=rfl) (hp:=⟨λh=>absurd h he,λh=>absurd h.1 hno⟩)
  ·exact absurd (iO.1 h1) he
 |true=>
  obtain⟨he,hres⟩:=hy.1 rfl;subst he;dsimp only[cond,List.cons_append,List.nil_append];refine go ?_;intro b2;refine go ?_;have hsy:dz Tryz.prog 105 [.agg ⟨gF (Kd.bF d) vh vs vr v1 v2⟩,.agg ⟨gF d vh vs vr vc vu⟩] [ah aa vh d.holes,ah fF vs d.symbols,ah eH vr d.regions,ah bM v1 (Kd.bF d).aJ,ah aY v2 (Kd.bF d).rules,ah bM vc d.aJ,ah aY vu d.rules] (.bool (decide (Kd.bF d=d))):=
   (Uv (x:=Kd.bF d) (y:=d) (h1:=vh) (s1:=vs) (r1:=vr) (c1:=v1) (u1:=v2) (h2:=vh) (s2:=vs) (r2:=vr) (c2:=vc) (u2:=vu) hS.bF).facts (λf hf=>by
     simp only[kT,dD,bX,dF,Gh,or_false]at hf⊢;rcases hf with rfl|rfl|rfl|rfl|rfl|rfl|rfl|rfl|rfl|rfl
     ·exact .inl rfl
     ·exact .inr (.inl rfl)
     ·exact .inr (.inr (.inl rfl))
     ·simp
     ·simp
     ·exact .inl rfl
     ·exact .inr (.inl rfl)
     ·exact .inr (.inr (.inl rfl))
     ·simp
     ·simp)
  refine ax hsy (next:=λ_ _=>?_);refine go ?_;by_cases hr:Kd.bF d=d
  ·rw[dZ hr];refine ax (qf (b:=true) (e:=170)) (next:=λ_ _=>?_);refine go ?_;exact ae 0 (hv:=rfl) (hp:=⟨λ_=>⟨hres,hr⟩,λ_=>rfl⟩)
  ·rw[aT hr];refine ax (qf (b:=false) (e:=170)) (next:=λ_ _=>?_);refine go ?_;exact ae 170 (hv:=rfl) (hp:=⟨(λh=>by cases h),λh=>absurd h.2 hr⟩)
theorem afQ{b:Nat}{d:bE}{vh vs vr vc vu:Value}:bi Tryz.prog (.func 220) [] [ptr' b] [] (tF b d vh vs vr vc vu) (λe:Int=>.int .i64 e) (λ_=>[]) (λ_=>[]) (λe=>e=0↔(1<=d.version/\d.version<=255)):=by
 refine aK _ (aP 220) λB w0=>?_;refine go ?_;first|with_reducible refine aN (λh1=>?_) (λh1=>?_)|with_reducible refine aM (λh1=>?_) (λh1=>?_)|with_reducible refine aL (λh1=>?_) (λh1=>?_)
 ·refine go ?_;refine ax (qf (b:=false) (e:=170)) (next:=λ_ _=>?_);refine go ?_;exact ae 170 (hv:=rfl) (hp:=⟨(λh=>by cases h),λh=>by exfalso;omega⟩)
 refine go ?_;by_cases h2:d.version<=255
 ·rw[dZ h2];refine ax (qf (b:=true) (e:=170)) (next:=λ_ _=>?_);refine go ?_;exact ae 0 (hv:=rfl) (hp:=⟨λ_=>⟨by omega,h2⟩,λ_=>rfl⟩)
 ·rw[aT h2];refine ax (qf (b:=false) (e:=170)) (next:=λ_ _=>?_);refine go ?_;exact ae 170 (hv:=rfl) (hp:=⟨(λh=>by cases h),λh=>absurd h.2 h2⟩)
theorem afR{b bg:Nat}{d:bE}{vh vs vr vc vu:Value}(hT:tY d):bi Tryz.prog (.func 221) [] [ptr' b,ptr' bg] [pt bg (.cells FH)] (tF b d vh vs vr vc vu) (λy:M8=>.int .i64 (cond y.ok 0 130))
 (λy=>[pt bg (.cells (cond y.ok (iM (uS d.shape d.w d.h d.holes) y.vh y.vc) FH))]) (oG d.shape d.w d.h d.holes) (λy=>y.ok=true↔nT d.shape d.w d.h d.holes):=by
 refine aK _ (aP 221) λB w0=>?_;refine go ?_;refine ax (M9 (s:=d.shape) (w:=d.w) (h:=d.h) (holes:=d.holes) (vh:=vh) hT.w hT.h hT.holes) (next:=λy hy=>?_);obtain⟨ok,v1,v2⟩:=y;cases ok with
 |false=>
  dsimp only[mkV,oG,cond,List.nil_append]at hy⊢;refine go ?_;exact ae ⟨false,v1,v2⟩ (hv:=rfl) (hp:=hy)
 |true=>
  dsimp only[mkV,oG,cond,jy,uS,List.cons_append,List.nil_append]at hy⊢;refine go ?_;exact ae ⟨true,v1,v2⟩ (hv:=rfl) (hp:=hy) (hF:=by show Sub [ah aa v1 d.holes,ah aa v2 (mi d.w d.h d.holes)] _;exact .cons (by simp) (.cons (by simp) .nil))
theorem afS{b bg:Nat}{d:bE}{vh vs vr vc vu gh gc:Value}{g:bA}(hS:mq d)(hG:qd g):bi Tryz.prog (.func 222) [] [ptr' b,ptr' bg] [] (eG bg 0 (iM g gh gc)::ah aa gh g.holes::ah aa gc g.cells::tF b d vh vs vr vc vu) (λe:Int=>.int .i64 e) (λ_=>[]) (λ_=>[]) (λe=>e=0↔∀r∈d.regions,yK g r):=by
 refine aK _ (aP 222) λB w0=>?_;refine go ?_;refine ax (afN (d:=d) (vh:=vh) (vs:=vs) (vr:=vr) (vc:=vc) (vu:=vu) (g:=g) (gh:=gh) (gc:=gc) hS hG) (next:=λe he=>?_);refine go ?_;exact ae e (hv:=rfl) (hp:=he)
theorem afT{b:Nat}{d:bE}{vh vs vr vc vu:Value}(hS:mq d):bi Tryz.prog (.func 224) [] [ptr' b] [] (tF b d vh vs vr vc vu) (λe:Int=>.int .i64 e) (λ_=>[]) (λ_=>[]) (λe=>e=0↔Jd d):=by
 refine aK _ (aP 224) λB w0=>?_;refine go ?_;refine ax (afH (d:=d) (vh:=vh) (vs:=vs) (vr:=vr) (vc:=vc) (vu:=vu) hS) (next:=λc hc=>?_);refine go ?_;refine ax (qf (b:=c) (e:=170)) (next:=λ_ _=>?_);refine go ?_;cases c with
 |false=>exact ae 170 (hv:=rfl) (hp:=⟨(λh=>by cases h),λh=>absurd (hc.2 h) (by simp)⟩)
 |true=>exact ae 0 (hv:=rfl) (hp:=⟨λ_=>hc.1 rfl,λ_=>rfl⟩)
theorem afU{b:Nat}{d:bE}{vh vs vr vc vu:Value}(hS:mq d):bi Tryz.prog (.func 226) [] [ptr' b] [] (tF b d vh vs vr vc vu) (λe:Int=>.int .i64 e) (λ_=>[]) (λ_=>[]) (λe=>e=0↔jh d.rules=[]):=by
 refine aK _ (aP 226) λB w0=>?_;refine go ?_;refine ax (afq (d:=d) (vh:=vh) (vs:=vs) (vr:=vr) (vc:=vc) (vu:=vu) hS.kG) (next:=λv _=>?_);refine go ?_;by_cases h:jh d.rules=[]
 ·rw[show decide (((jh d.rules).length:Int)=0)=true from dZ (by rw[h];rfl)];refine ax (qf (b:=true) (e:=171)) (next:=λ_ _=>?_);refine go ?_;exact ae 0 (hv:=rfl) (hp:=⟨λ_=>h,λ_=>rfl⟩)
 ·rw[show decide (((jh d.rules).length:Int)=0)=false from aT (λe=>h (ji.1 (by omega)))];refine ax (qf (b:=false) (e:=171)) (next:=λ_ _=>?_);refine go ?_;exact ae 171 (hv:=rfl) (hp:=⟨(λh=>by cases h),λe=>absurd e h⟩)
theorem afV{d:bE}{vh vs vr vc vu:Value}(hT:tY d):bi Tryz.prog (.func 151) [.agg ⟨gF d vh vs vr vc vu⟩] [] [] (kT d vh vs vr vc vu) (λe:Int=>.int .i64 e) (λ_=>[]) (λ_=>[]) (λe=>e=0↔FV d):=by
 have hS:=hT.s;refine aK _ (aP 151) λB w0=>?_;refine go ?_;intro b1 b3 b14;refine bD (eO (b:=b1)) (h:=?_);refine go ?_;refine kC ?_;refine go ?_;refine ax (afO (b:=b1) (d:=d) (vh:=vh) (vs:=vs) (vr:=vr) (vc:=vc) (vu:=vu) hS) (next:=λe he=>?_);refine go ?_;refine aA rfl (λhne=>?_) (λhz=>?_)
 ·refine go ?_;exact ae e (hv:=rfl) (hp:=⟨λh=>absurd h hne,λh=>absurd (he.2 h.lim) hne⟩)
 have k1:=he.1 (iO.1 hz);clear hz he;refine go ?_;refine kC ?_;refine go ?_;refine ax (afP (b:=b1) (d:=d) (vh:=vh) (vs:=vs) (vr:=vr) (vc:=vc) (vu:=vu) hS) (next:=λe he=>?_);refine go ?_;refine aA rfl (λhne=>?_) (λhz=>?_)
 ·refine go ?_;exact ae e (hv:=rfl) (hp:=⟨λh=>absurd h hne,λh=>absurd (he.2 ⟨h.rs,h.same⟩) hne⟩)
 have k2:=he.1 (iO.1 hz);clear hz he;refine go ?_;refine kC ?_;refine go ?_;refine ax (afQ (b:=b1) (d:=d) (vh:=vh) (vs:=vs) (vr:=vr) (vc:=vc) (vu:=vu)) (next:=λe he=>?_);refine go ?_;refine aA rfl (λhne=>?_) (λhz=>?_)
 ·refine go ?_;exact ae e (hv:=rfl) (hp:=⟨λh=>absurd h hne,λh=>absurd (he.2 h.NB) hne⟩)
 have k3:=he.1 (iO.1 hz);clear hz he;refine go ?_;refine kC ?_;refine go ?_;refine ax (afR (b:=b1) (bg:=b3) (d:=d) (vh:=vh) (vs:=vs) (vr:=vr) (vc:=vc) (vu:=vu) hT) (next:=λy hy=>?_);obtain⟨ok,gh,gc⟩:=y;cases ok with
 |false=>
  dsimp only[cond,oG,List.cons_append,List.nil_append]at hy⊢;refine go ?_;exact ae 130 (hv:=rfl) (hp:=⟨(λh=>by cases h),λh=>absurd (hy.2 h.Cu) (by simp)⟩)
 |true=>
 have hmk:=hy.1 rfl;have hG:=FW hmk;dsimp only[cond,oG];rw[show uS d.shape d.w d.h d.holes=aO d from rfl];dsimp only[jy,List.cons_append,List.nil_append];refine bD (eO (b:=b3)) (h:=?_);refine go ?_;refine kC ?_;refine go ?_;refine ax (afS (b:=b1) (bg:=b3) (d:=d) (vh:=vh) (vs:=vs) (vr:=vr) (vc:=vc) (vu:=vu) (g:=aO d) (gh:=gh) (gc:=gc) hS hG) (next:=λe he=>?_);refine go ?_;refine aA rfl (λhne=>?_) (λhz=>?_)
 ·refine go ?_;exact ae e (hv:=rfl) (hp:=⟨λh=>absurd h hne,λh=>absurd (he.2 h.Ao) hne⟩)
 have k5:=he.1 (iO.1 hz);clear hz he;refine go ?_;refine kC ?_;refine go ?_;refine ax (afT (b:=b1) (d:=d) (vh:=vh) (vs:=vs) (vr:=vr) (vc:=vc) (vu:=vu) hS) (next:=λe he=>?_);refine go ?_;refine aA rfl (λhne=>?_) (λhz=>?_)
 ·refine go ?_;exact ae e (hv:=rfl) (hp:=⟨λh=>absurd h hne,λh=>absurd (he.2 h.form) hne⟩)
 have k6:=he.1 (iO.1 hz);clear hz he;refine go ?_;refine kC ?_;refine go ?_;refine ax (afU (b:=b1) (d:=d) (vh:=vh) (vs:=vs) (vr:=vr) (vc:=vc) (vu:=vu) hS) (next:=λe he=>?_);refine go ?_;refine aA rfl (λhne=>?_) (λhz=>?_)
 ·refine go ?_;exact ae e (hv:=rfl) (hp:=⟨λh=>absurd h hne,λh=>absurd (he.2 h.read) hne⟩)
 have k7:=he.1 (iO.1 hz);clear hz he;refine go ?_;refine kC ?_;refine go ?_;exact ae 0 (hv:=rfl) (hp:=⟨λ_=>⟨k1,k2.1,k2.2,k3,hmk,k5,k6,k7⟩,λ_=>rfl⟩)
