/-
  Types: declarations that are well-formed.
-/
import Derived.Test.YtoohgkkmdnbnfaaGreatDoorLibIF
set_option linter.all false
set_option maxRecDepth 10000
set_option maxHeartbeats 4000000
namespace Go.Proofs.YtoohgkkmdnbnfaaGreatDoor
open Go.Ideal Kd
structure IB(d:bD):Prop where
 dO:∀s∈d.symbols,0<=s.value/\s.value<=99
 kg:∀r∈d.rules,qA (fO r.kind) d.aI r
 jk:∀(i:Nat) (c:iP),d.aI[i]? =some c->(d.rules.map (·.aG)).count (i:Int)=1/\nL c
theorem aeQ{d:bD}{vh vs vr vc vu:Value}(hS:lX d):
 bz Tryz.prog (.func 225) [.agg ⟨gq d vh vs vr vc vu⟩] [] [] [ah fA vs d.symbols,ah bJ vc d.aI,ah aY vu d.rules] (λb:Bool=>.bool b) (λ_=>[]) (λ_=>[]) (λb=>b=true↔IB d):=by
 have hsl:=hS.dO;have hcl:=hS.jk;have xZ:=hS.kg;refine aK _ (aP 225) λB w0=>?_;refine aV (E:=fA) (v:=vs) (xs:=d.symbols) (by simp) λlF cs1 es=>?_;subst es;refine aV (E:=bJ) (v:=vc) (xs:=d.aI) (by simp) λac cc ec=>?_;subst ec;refine aV (E:=aY) (v:=vu) (xs:=d.rules) (by simp) λau cu eu=>?_;subst eu;refine go ?_;intro b1;refine bC (eH (b:=b1)) (h:=?_);refine go ?_;refine bi (λk:Nat=>d.symbols.length - k) (λk=>[(13,.int .i64 (k:Int))]) (λ_=>[]) (λ_=>[]) (λk=>k<=d.symbols.length/\∀s∈d.symbols.take k,0<=s.value/\s.value<=99) 0 ⟨cB _,by simp⟩ (body:=?_);rintro k ⟨hk,hall⟩;refine go ?_;refine az rfl (λh1=>?_) (λh1=>?_)
 ·refine go ?_;refine aZ fA (xs:=d.symbols) (next:=λ_ _ s (_:Unit) hs=>?_);have hsm:=bI hs;refine go ?_;intro b4;refine go ?_;first|with_reducible refine aL (λh2=>?_) (λh2=>?_)|with_reducible refine aO (λh2=>?_) (λh2=>?_)|with_reducible refine aM (λh2=>?_) (λh2=>?_)
  ·refine go ?_;refine az rfl (λh3=>?_) (λh3=>?_)
   ·refine go ?_;exact ae false (hv:=rfl) (hp:=⟨(λh=>by cases h),λh=>by exfalso;have:=h.dO s hsm;omega⟩)
   ·refine go ?_;refine aQ (k+1) (by show d.symbols.length - (k+1)<d.symbols.length - k;omega) ⟨by omega,?_⟩;rw[bX hs];intro x hx;rcases dX.1 hx with hx|hx
    ·exact hall x hx
    ·rw[bH.1 hx];omega
  ·refine go ?_;exact ae false (hv:=rfl) (hp:=⟨(λh=>by cases h),λh=>by exfalso;have:=h.dO s hsm;omega⟩)
 have hks:k=d.symbols.length:=by omega
 subst hks;rw[bK]at hall;refine go ?_;refine xO jq (λbm=>?_);refine go ?_;refine bi (λk:Nat=>d.rules.length - k) (λk=>[(30,.int .i64 (k:Int))]) (λk=>[gI jq bm (sP ((d.rules.take k).map (·.aG)))]) (λ_=>[]) (λk=>k<=d.rules.length/\∀r∈d.rules.take k,qA (fO r.kind) d.aI r) 0 ⟨cB _,by simp⟩ (hk:=by repeat (first|exact aH.nil|(apply aH.cons;(focus (repeat (first|exact ay.here|apply ay.there)))))) (body:=?_);rintro k ⟨hk,zP⟩;have hcn:∀c:Int,((d.rules.take k).map (·.aG)).count c<=4096:=λc=>by
  have:=Su c ((d.rules.take k).map (·.aG));rw[bU,iy]at this;omega
 refine go ?_;refine az rfl (λh1=>?_) (λh1=>?_)
 ·refine go ?_;refine aZ aY (xs:=d.rules) (next:=λ_ _ r (vv:Value×Value) hr=>?_);have hrm:=bI hr;have hrn:=hS.qx r hrm;refine go ?_;intro b7;refine go ?_;refine ax (aeP (d:=d) (r:=r) (v1:=vv.1) (v2:=vv.2) hcl hrn.1 hrn.2) (next:=λb hb=>?_);cases b with
  |false=>
   refine go ?_;exact ae false (hv:=rfl) (hp:=⟨(λh=>by cases h),λh=>absurd (hb.2 (h.kg r hrm)) (by simp)⟩)
  |true=>
   have hR:=hb.1 rfl;have hc1:=hcn r.aG;have hst:sP ((d.rules.take (k+1)).map (·.aG))=upd r.aG (.int .i64 ((((d.rules.take k).map (·.aG)).count r.aG:Nat)+1)) (sP ((d.rules.take k).map (·.aG))):=by
    rw[bX hr,dY,oh,Sq]
   refine go ?_;refine DT (aX:=jq) (b:=bm) (ai:=sP ((d.rules.take k).map (·.aG))) x8 r.aG ?_;rw[Sr];refine go ?_;refine vO (aX:=jq) (b:=bm) (v:=.int .i64 ((((d.rules.take k).map (·.aG)).count r.aG:Nat)+1)) (ai:=sP ((d.rules.take k).map (·.aG))) x8 r.aG ?_;rw[<- hst];refine go ?_;refine aQ (k+1) (by show d.rules.length - (k+1)<d.rules.length - k;omega) ⟨by omega,?_⟩;rw[bX hr];intro x hx;rcases dX.1 hx with hx|hx
   ·exact zP x hx
   ·rw[bH.1 hx];exact hR
 have hkr:k=d.rules.length:=by omega
 subst hkr;rw[bK]at zP hcn⊢;refine go ?_;refine bi (λk:Nat=>d.aI.length - k) (λk=>[(47,.int .i64 (k:Int))]) (λ_=>[]) (λ_=>[]) (λk=>k<=d.aI.length/\∀(i:Nat) (c:iP),i<k->d.aI[i]? =some c->(d.rules.map (·.aG)).count (i:Int)=1/\nL c) 0 ⟨cB _,λi c h=>by omega⟩ (body:=?_);rintro k ⟨hk,Ez⟩;refine go ?_;refine az rfl (λh1=>?_) (λh1=>?_)
 ·refine go ?_;refine aZ bJ (xs:=d.aI) (next:=λ_ _ c (_:Unit) hc=>?_);have hck:=hcn (k:Int);refine go ?_;intro b9;refine go ?_;refine DT (aX:=jq) (b:=bm) (ai:=sP (d.rules.map (·.aG))) x8 (k:Int) ?_;rw[Sr];refine go ?_;first|with_reducible refine aL (λh2=>?_) (λh2=>?_)|with_reducible refine aO (λh2=>?_) (λh2=>?_)|with_reducible refine aM (λh2=>?_) (λh2=>?_)
  ·refine go ?_;refine ax (aeA (c:=c)) (next:=λ_ _=>?_);refine go ?_;refine eO rfl (λh3=>?_) (λh3=>?_)
   ·refine go ?_;exact ae false (hv:=rfl) (hp:=⟨(λh=>by cases h),λh=>absurd (h.jk k c hc).2 h3⟩)
   ·refine go ?_;refine aQ (k+1) (by show d.aI.length - (k+1)<d.aI.length - k;omega) ⟨by omega,λi x hi hx=>?_⟩;by_cases hik:i=k
    ·subst hik;rw[hc]at hx;cases hx;exact⟨by omega,h3⟩
    ·exact Ez i x (by omega) hx
  ·refine go ?_;exact ae false (hv:=rfl) (hp:=⟨(λh=>by cases h),λh=>by exfalso;have:=(h.jk k c hc).1;omega⟩)
 have hkc:k=d.aI.length:=by omega
 subst hkc;refine go ?_;exact ae true (hv:=rfl) (hp:=⟨λ_=>⟨hall,zP,λi c hc=>Ez i c (bN.1 hc).1 hc⟩,λ_=>rfl⟩)
theorem aeR{v:Value}{xs:List Int}:bz Tryz.prog (.func 255) [v] [] [] [ah aa v xs] (λb:Nat=>.func (.func 290) #[] #[ptr' b]) (λ_=>[]) (λb=>[eB b 0 [v]]) (λ_=>True):=by
 refine aK _ (aP 255) λB w0=>?_;refine aV (E:=aa) (v:=v) (xs:=xs) (by simp) λa c e=>?_;subst e;refine go ?_;intro b1;refine go ?_;refine bC (eH (b:=b1)) (h:=?_);exact ae b1 (hv:=rfl) (hp:=trivial)
theorem aeS{b:Nat}{v:Value}{xs:List Int}(hl:xs.length<9223372036854775808):ry Tryz.prog (λx:Int=>[jq x]) (.func 290) [] [ptr' b] [eB b 0 [v],ah aa v xs] (λys=>ys=xs):=by
 intro S inv ok step s0 uq y1 y2 F' h0 hok hy;rw[dF,dF,bY];refine aK _ (aP 290) λB w0=>?_;refine go ?_;refine bi (λy:Nat×S=>xs.length - y.1) (λy=>[(7,.int .i64 (y.1:Int))]) (λy=>inv y.2) (λ_=>[]) (λy=>y.1<=xs.length/\ok (xs.take y.1) y.2/\gM step y.2 (xs.drop y.1)=gM step s0 xs) (0,s0) ⟨cB _,h0,rfl⟩ (body:=?_);rintro⟨k,s⟩ ⟨hk,hos,hrun⟩;dsimp only at hk hos hrun⊢;refine go ?_;refine az rfl (λh1=>?_) (λh1=>?_)
 ·refine go ?_;intro _ _ x hx;have hd:xs.drop k=x::xs.drop (k+1):=by
   rw[oQ (by omega)];congr 1;rw[cz (by omega)]at hx;exact Option.some.inj hx
  have hX:xs.take k++x::xs.drop (k+1)=xs:=by rw[<- hd,rT]
  have nK:=hy _ s _ _ hos hX;rw[hd,gM]at hrun;refine go ?_;refine ax nK (next:=λ_ _=>?_);cases hst:(step s x).2 with
  |true=>
   have hs1:step s x=((step s x).1,true):=Prod.ext rfl hst;rw[hs1]at hrun;refine go ?_;refine aQ (k+1,(step s x).1) (by show xs.length - (k+1)<xs.length - k;omega) ⟨by show k+1<=_;omega,?_,hrun⟩;show ok (xs.take (k+1)) _;rw[bX hx];exact hok _ s _ _ hos hX hst
  |false=>
   have hs1:step s x=((step s x).1,false):=Prod.ext rfl hst;rw[hs1]at hrun;dsimp only at hrun;refine go ?_;exact ae xs (hv:=rfl) (hp:=rfl) (hk:=by rw[<- hrun];exact aH.all _)
 have hke:k=xs.length:=by omega
 subst hke;rw[List.drop_length]at hrun;refine go ?_;exact ae xs (hv:=rfl) (hp:=rfl) (hk:=by rw[<- hrun];exact aH.all _)
abbrev MW(P:Program)(fn:Fn)(first cap:List Value)(F:List aF)(p:List Int->Bool)(x:List Int):Prop:=
 ∀v:Value,bz P fn (first++[v]) cap [] (ah aa v x::F) (λ_:Unit=>.bool (p x)) (λ_=>[]) (λ_=>[]) (λ_=>True)
theorem aeT{fn:Fn}{first cap:List Value}{F1:List aF}{p:List Int->Bool}{va:Value}{xs:List (List Int)}(hl:xs.length<9223372036854775808)(hp:∀x∈xs,MW Tryz.prog fn first cap F1 p x):
 bz Tryz.prog (.func 291) [va,.func fn ⟨first⟩ ⟨cap⟩] [] [ap (aj aa) va xs] F1 (λr:Int=>.int .i64 r) (λ_=>[ap (aj aa) va xs]) (λ_=>[]) (λr=>(0<=r↔xs.any p=true)):=by
 refine aK _ (aP 291) λB w0=>?_;refine oL (E:=aj aa) (v:=va) (xs:=xs) λa hv=>?_;subst hv;refine go ?_;refine bi (λk=>xs.length - k) (λk:Nat=>[(8,.int .i64 (k:Int))]) (λ_=>[]) (λ_=>[]) (λk=>k<=xs.length/\(xs.take k).any p=false) 0 ⟨by omega,by simp⟩ (body:=?_);rintro k ⟨hk,hno⟩;refine go ?_;refine az rfl (λh1=>?_) (λh1=>?_)
 ·have hx:xs[k]? =some (xs[k]'(by omega)):=cz _;generalize xs[k]'(by omega)=x at hx;refine go ?_;refine G9 aa (v:=.slice a xs.length xs.length) (xss:=xs) k x hx (next:=λb o u=>?_);refine go ?_;refine ax (hp x (bI hx) u) (next:=λ_ _=>?_);refine go ?_;refine jT rfl (λh2=>?_) (λh2=>?_)
  ·refine go ?_;exact ae (k:Int) (hv:=rfl) (hp:=⟨λ_=>List.any_eq_true.2 ⟨x,bI hx,h2⟩,λ_=>by omega⟩)
  ·refine go ?_;refine aQ (k+1) (by omega) ⟨by omega,?_⟩;rw[bX hx,List.any_append,hno];simp[h2]
 refine go ?_;have:k=xs.length:=by omega
 subst this;rw[bK]at hno;exact ae (-1) (hv:=rfl) (hp:=⟨λh=>by omega,λh=>by rw[hno]at h;cases h⟩)
theorem aeU{fn:Fn}{first cap:List Value}{F1:List aF}{p:List Int->Bool}{va:Value}{xs:List (List Int)}(hl:xs.length<9223372036854775808)(hp:∀x∈xs,MW Tryz.prog fn first cap F1 p x):
 bz Tryz.prog (.func 256) [va,.func fn ⟨first⟩ ⟨cap⟩] [] [ap (aj aa) va xs] F1 (λ_:Unit=>.bool (xs.any p)) (λ_=>[ap (aj aa) va xs]) (λ_=>[]) (λ_=>True):=by
 refine aK _ (aP 256) λB w0=>?_;refine go ?_;refine ax (aeT hl hp) (next:=λr hr=>?_);refine go ?_;refine ae () (hv:=?_) (hp:=trivial);have:xs.any p=decide (0<=r):=by rw[wK,wO];exact hr.symm
 rw[this];rfl
theorem aeV{b:Nat}{vx:Value}{zs:List Int}(hl:zs.length<9223372036854775808)(ys:List Int):MW Tryz.prog (.func 257) [] [ptr' b] [eB b 0 [vx],ah aa vx zs] (λy=>decide (zs=y)) ys:=by
 intro v;rw[bY];refine aK _ (aP 257) λB w0=>?_;refine go ?_;refine ax (zH (xs:=zs) (ys:=ys) hl) (next:=λ_ _=>?_);refine go ?_;exact ae () (hv:=rfl) (hp:=trivial)
def yj(g:bq)(r:lS):Prop:=(eP g/\vZ g r.lists)/\(r.lists.map cK).Nodup
theorem aeW{d:bD}{vh vs vr vc vu gh gc:Value}{g:bq}(hS:lX d)(hG:pK g):
 bz Tryz.prog (.func 223) [.agg ⟨gq d vh vs vr vc vu⟩,.agg ⟨iI g gh gc⟩] [] [] (ah ed vr d.regions::je g gh gc) (λe:Int=>.int .i64 e) (λ_=>[]) (λ_=>[]) (λe=>e=0↔∀r∈d.regions,yj g r):=by
 have hrl:=hS.regs;refine aK _ (aP 223) λB w0=>?_;refine aV (E:=ed) (v:=vr) (xs:=d.regions) (by simp) λar cr er=>?_;subst er;refine go ?_;intro b2 b3;refine bC (eH (b:=b2)) (h:=?_);refine bC (eH (b:=b3)) (h:=?_);refine go ?_;refine bi (λk:Nat=>d.regions.length - k) (λk=>[(16,.int .i64 (k:Int))]) (λ_=>[]) (λ_=>[]) (λk=>k<=d.regions.length/\∀r∈d.regions.take k,yj g r) 0 ⟨cB _,by simp⟩ (body:=?_);rintro k ⟨hk,hall⟩;refine go ?_;refine az rfl (λh1=>?_) (λh1=>?_)
 ·refine go ?_;refine aZ ed (xs:=d.regions) (next:=λ_ _ r (vl:Value) hr=>?_);have hrm:=bI hr;obtain⟨hl1,hl2⟩:=hS.qy r hrm;refine go ?_;intro b6;refine go ?_;refine ax (TZ (g:=g) (vh:=gh) (vc:=gc) (vr:=vl) (rs:=r.lists) hG hl1 hl2) (next:=λy hy=>?_);obtain⟨v7,e⟩:=y;dsimp only at hy⊢;refine go ?_;refine az rfl (λh2=>?_) (λh2=>?_)
  ·refine go ?_;exact ae e (hv:=rfl) (hp:=⟨(λh=>absurd h h2),λh=>absurd (hy.2 (h r hrm).1) h2⟩)
  have he:e=0:=iK.1 h2;obtain⟨hg,hro⟩:=hy.1 he;have hgl:=hg.len;have hrl2:=hro.len;refine aV (E:=aj aa) (v:=vl) (xs:=r.lists) (by simp) λal cl el=>?_;subst el;refine go ?_;refine gz (aj aa) ?_;refine bi (λy:Nat×Value=>r.lists.length - y.1) (λy=>[(33,.int .i64 (y.1:Int)),(9,y.2)]) (λy=>[ap (aj aa) y.2 ((r.lists.take y.1).map cK)]) (λ_=>[]) (λy=>y.1<=r.lists.length/\((r.lists.take y.1).map cK).Nodup) (0,.slice none 0 0) ⟨cB _,by simp⟩ (hk:=by repeat (first|exact aH.nil|(apply aH.cons;(focus (repeat (first|exact ay.here|apply ay.there)))))) (body:=?_);rintro⟨j,v9⟩ ⟨hj,hnd⟩;dsimp only at hj hnd⊢;have hjl:((r.lists.take j).map cK).length=j:=by rw[bU,iy];omega
  refine go ?_;refine az rfl (λh3=>?_) (λh3=>?_)
  ·refine go ?_;refine aZ (aj aa) (xs:=r.lists) (next:=λ_ _ ps (vp:Value) hps=>?_);have hpm:=bI hps;have hP:=hro.all ps hpm;have hpl:ps.length<=256:=by have:=HY hP.mem hP.nd;omega
   refine go ?_;refine ax (aeR (v:=vp) (xs:=ps)) (next:=λbv _=>?_);refine go ?_;refine ax (TY (aeS (b:=bv) (v:=vp) (xs:=ps) (by omega)) (λys h=>by rw[h];omega)) (next:=λy hy2=>?_);obtain⟨v39,zs⟩:=y;dsimp only[List.cons_append,List.nil_append]at hy2⊢;subst hy2;have hzl:=zu zs;refine bC (gy (E:=aa) (v:=v39) (xs:=cK zs)) (h:=?_);refine aV (E:=aa) (v:=v39) (xs:=cK zs) (by simp) λa39 MX e39=>?_;subst e39;refine go ?_;intro b12;refine bC (eH (b:=b12)) (h:=?_);refine go ?_;refine ax (aeU (fn:=.func 257) (first:=[]) (cap:=[ptr' b12]) (F1:=[eB b12 0 [.slice a39 (cK zs).length MX],ah aa (.slice a39 (cK zs).length MX) (cK zs)]) (p:=λy=>decide (cK zs=y)) (va:=v9) (xs:=(r.lists.take j).map cK) (by omega) (λx _=>aeV (by omega) x)) (next:=λ_ _=>?_);have htk:(r.lists.take (j+1)).map cK=(r.lists.take j).map cK++[cK zs]:=by rw[bX hps,dY,oh]
   refine go ?_;refine jT rfl (λh4=>?_) (λh4=>?_)
   ·refine go ?_;refine ae 161 (hv:=rfl) (hp:=⟨(λh=>by cases h),λh=>?_⟩)
    exfalso
    have h5:=(h r hrm).2;have h6:((r.lists.take (j+1)).map cK).Nodup:=h5.sublist ((NS _ _).map _);rw[htk,iJ]at h6;obtain⟨x,hx,hx2⟩:=List.any_eq_true.1 h4;exact h6.2.2 x hx _ (bH.2 rfl) (gQ hx2).symm
   ·refine go ?_;intro b45;refine go ?_;refine eY (xs:=(r.lists.take j).map cK) (aj aa) (cK zs) (.slice a39 (cK zs).length MX) (by omega) (next:=λad=>?_);rw[<- htk];refine go ?_;refine aQ (j+1,.slice ad (((r.lists.take j).map cK).length+1) (((r.lists.take j).map cK).length+1)) (by show r.lists.length - (j+1)<r.lists.length - j;omega) ⟨by show j+1<=_;omega,?_⟩;show((r.lists.take (j+1)).map cK).Nodup;rw[htk,iJ];refine⟨hnd,by simp,λa ha b hb e=>?_⟩;rw[bH.1 hb]at e;subst e;rw[List.any_eq_false]at h4;exact h4 _ ha (dZ rfl)
  have jr:j=r.lists.length:=by omega
  subst jr;rw[bK]at hnd;refine go ?_;refine aQ (k+1) (by show d.regions.length - (k+1)<d.regions.length - k;omega) ⟨by omega,?_⟩;rw[bX hr];intro x hx;rcases dX.1 hx with hx|hx
  ·exact hall x hx
  ·rw[bH.1 hx];exact⟨⟨hg,hro⟩,hnd⟩
 have hke:k=d.regions.length:=by omega
 subst hke;rw[bK]at hall;refine go ?_;exact ae 0 (hv:=rfl) (hp:=⟨λ_=>hall,λ_=>rfl⟩)
structure Uc(d:bD):Prop where
 s0:0<d.symbols.length
 s1:d.symbols.length<=16
 r:d.regions.length<=4
 c:d.aI.length<=4
 u:d.rules.length<=16
structure EA(d:bD):Prop where
 lim:Uc d
 rs:BB d
 same:Kd.bF d=d
 MZ:1<=d.version/\d.version<=255
 BN:nG d.shape d.w d.h d.holes
 zQ:∀r∈d.regions,yj (aN d) r
 form:IB d
 read:iV d.rules=[]
structure sV(d:bD):Prop where
 s:lX d
 w:jU d.w
 h:jU d.h
 holes:d.holes.length<4611686018427387904
theorem EB{d:bD}(hm:nG d.shape d.w d.h d.holes):pK (aN d):=by
 have hb:=vS hm.wi hm.he;have h1:=hm.wi;have h2:=hm.he;have h3:=hm.len;have h4:=BC (d.w*d.h).toNat d.holes;refine⟨?_,?_,?_,?_⟩
 ·show jU d.w;unfold jU;omega
 ·show jU d.h;unfold jU;omega
 ·show d.holes.length<_;omega
 ·show(lU d.w d.h d.holes).length<_;unfold lU;omega
abbrev tF(b:Nat)(d:bD)(vh vs vr vc vu:Value):List aF:=eB b 0 (gq d vh vs vr vc vu)::kG d vh vs vr vc vu
theorem aeX{b:Nat}{d:bD}{vh vs vr vc vu:Value}(hS:lX d):bz Tryz.prog (.func 217) [] [ptr' b] [] (tF b d vh vs vr vc vu) (λe:Int=>.int .i64 e) (λ_=>[]) (λ_=>[]) (λe=>e=0↔Uc d):=by
 have hsl:=hS.dO;have hrl:=hS.regs;have hcl:=hS.jk;have xZ:=hS.kg;refine aK _ (aP 217) λB w0=>?_;refine go ?_;first|with_reducible refine aL (λh1=>?_) (λh1=>?_)|with_reducible refine aO (λh1=>?_) (λh1=>?_)|with_reducible refine aM (λh1=>?_) (λh1=>?_)
 ·refine go ?_;refine ax (pM (b:=false) (e:=2)) (next:=λ_ _=>?_);refine go ?_;refine ae _ (hv:=rfl) (hp:=⟨λh=>?_,λh=>?_⟩)
  ·cases h
  ·exact absurd h.s0 (by omega)
 refine go ?_;first|with_reducible refine aL (λh2=>?_) (λh2=>?_)|with_reducible refine aO (λh2=>?_) (λh2=>?_)|with_reducible refine aM (λh2=>?_) (λh2=>?_)
 ·refine go ?_;refine ax (pM (b:=false) (e:=2)) (next:=λ_ _=>?_);refine go ?_;refine ae _ (hv:=rfl) (hp:=⟨λh=>?_,λh=>?_⟩)
  ·cases h
  ·exact absurd h.s1 (by omega)
 refine go ?_;first|with_reducible refine aL (λh3=>?_) (λh3=>?_)|with_reducible refine aO (λh3=>?_) (λh3=>?_)|with_reducible refine aM (λh3=>?_) (λh3=>?_)
 ·refine go ?_;refine ax (pM (b:=false) (e:=2)) (next:=λ_ _=>?_);refine go ?_;refine ae _ (hv:=rfl) (hp:=⟨λh=>?_,λh=>?_⟩)
  ·cases h
  ·exact absurd h.r (by omega)
 refine go ?_;first|with_reducible refine aL (λh4=>?_) (λh4=>?_)|with_reducible refine aO (λh4=>?_) (λh4=>?_)|with_reducible refine aM (λh4=>?_) (λh4=>?_)
 ·refine go ?_;refine ax (pM (b:=false) (e:=2)) (next:=λ_ _=>?_);refine go ?_;refine ae _ (hv:=rfl) (hp:=⟨λh=>?_,λh=>?_⟩)
  ·cases h
  ·exact absurd h.c (by omega)
 refine go ?_;by_cases h5:d.rules.length<=16
 ·rw[show decide ((d.rules.length:Int)<=16)=true from dZ (by omega)];refine ax (pM (b:=true) (e:=2)) (next:=λ_ _=>?_);refine go ?_;refine ae _ (hv:=rfl) (hp:=⟨λh=>?_,λh=>?_⟩)
  ·exact⟨by omega,by omega,by omega,by omega,h5⟩
  ·rfl
 ·rw[show decide ((d.rules.length:Int)<=16)=false from aT (by omega)];refine ax (pM (b:=false) (e:=2)) (next:=λ_ _=>?_);refine go ?_;refine ae _ (hv:=rfl) (hp:=⟨λh=>?_,λh=>?_⟩)
  ·cases h
  ·exact absurd h.u h5
theorem lX.bF{d:bD}(hS:lX d):lX (Kd.bF d):=by
 refine⟨hS.dO,hS.regs,?_,?_,?_,hS.holes,hS.qy⟩
 ·show(d.aI.map _).length<=_;rw[bU];exact hS.jk
 ·show(d.rules.map _).length<=_;rw[bU];exact hS.kg
 ·intro r hr;obtain⟨q,hq,rfl⟩:=eG.1 (show r∈d.rules.map _ from hr);exact hS.qx q hq
theorem aeY{b:Nat}{d:bD}{vh vs vr vc vu:Value}(hS:lX d):bz Tryz.prog (.func 219) [] [ptr' b] [] (tF b d vh vs vr vc vu) (λe:Int=>.int .i64 e) (λ_=>[]) (λ_=>[]) (λe=>e=0↔BB d/\Kd.bF d=d):=by
 refine aK _ (aP 219) λB w0=>?_;refine go ?_;refine ax (Tx (d:=d) hS) (next:=λy hy=>?_);obtain⟨ok,e,v1,v2⟩:=y;dsimp only[qw,nJ,zI]at hy⊢;cases ok with
 |false=>
  obtain⟨he,hno⟩:=hy.2 rfl;dsimp only[cond];refine go ?_;intro b2;refine go ?_;refine az rfl (λh1=>?_) (λh1=>?_)
  ·refine go ?_;exact ae e (hv:=rfl) (hp:=⟨λh=>absurd h he,λh=>absurd h.1 hno⟩)
  ·exact absurd (iK.1 h1) he
 |true=>
  obtain⟨he,hres⟩:=hy.1 rfl;subst he;dsimp only[cond,List.cons_append,List.nil_append];refine go ?_;intro b2;refine go ?_;have hsy:dG Tryz.prog 105 [.agg ⟨gq (Kd.bF d) vh vs vr v1 v2⟩,.agg ⟨gq d vh vs vr vc vu⟩] [ah aa vh d.holes,ah fA vs d.symbols,ah ed vr d.regions,ah bJ v1 (Kd.bF d).aI,ah aY v2 (Kd.bF d).rules,ah bJ vc d.aI,ah aY vu d.rules] (.bool (decide (Kd.bF d=d))):=
   (TC (x:=Kd.bF d) (y:=d) (h1:=vh) (s1:=vs) (r1:=vr) (c1:=v1) (u1:=v2) (h2:=vh) (s2:=vs) (r2:=vr) (c2:=vc) (u2:=vu) hS.bF).facts (λf hf=>by
     simp only[kG,dF,bY,dD,ET,or_false]at hf⊢;rcases hf with rfl|rfl|rfl|rfl|rfl|rfl|rfl|rfl|rfl|rfl
     ·exact .inl rfl
     ·exact .inr (.inl rfl)
     ·exact .inr (.inr (.inl rfl))
     ·simp
     ·simp
     ·exact .inl rfl
     ·exact .inr (.inl rfl)
     ·exact .inr (.inr (.inl rfl))
     ·simp
     ·simp)
  refine ax hsy (next:=λ_ _=>?_);refine go ?_;by_cases hr:Kd.bF d=d
  ·rw[dZ hr];refine ax (pM (b:=true) (e:=170)) (next:=λ_ _=>?_);refine go ?_;exact ae 0 (hv:=rfl) (hp:=⟨λ_=>⟨hres,hr⟩,λ_=>rfl⟩)
  ·rw[aT hr];refine ax (pM (b:=false) (e:=170)) (next:=λ_ _=>?_);refine go ?_;exact ae 170 (hv:=rfl) (hp:=⟨(λh=>by cases h),λh=>absurd h.2 hr⟩)
theorem aeZ{b:Nat}{d:bD}{vh vs vr vc vu:Value}:bz Tryz.prog (.func 220) [] [ptr' b] [] (tF b d vh vs vr vc vu) (λe:Int=>.int .i64 e) (λ_=>[]) (λ_=>[]) (λe=>e=0↔(1<=d.version/\d.version<=255)):=by
 refine aK _ (aP 220) λB w0=>?_;refine go ?_;first|with_reducible refine aL (λh1=>?_) (λh1=>?_)|with_reducible refine aO (λh1=>?_) (λh1=>?_)|with_reducible refine aM (λh1=>?_) (λh1=>?_)
 ·refine go ?_;refine ax (pM (b:=false) (e:=170)) (next:=λ_ _=>?_);refine go ?_;exact ae 170 (hv:=rfl) (hp:=⟨(λh=>by cases h),λh=>by exfalso;omega⟩)
 refine go ?_;by_cases h2:d.version<=255
 ·rw[dZ h2];refine ax (pM (b:=true) (e:=170)) (next:=λ_ _=>?_);refine go ?_;exact ae 0 (hv:=rfl) (hp:=⟨λ_=>⟨by omega,h2⟩,λ_=>rfl⟩)
 ·rw[aT h2];refine ax (pM (b:=false) (e:=170)) (next:=λ_ _=>?_);refine go ?_;exact ae 170 (hv:=rfl) (hp:=⟨(λh=>by cases h),λh=>absurd h.2 h2⟩)
theorem ae0{b bg:Nat}{d:bD}{vh vs vr vc vu:Value}(hT:sV d):bz Tryz.prog (.func 221) [] [ptr' b,ptr' bg] [pt bg (.cells Em)] (tF b d vh vs vr vc vu) (λy:Mt=>.int .i64 (cond y.ok 0 130))
 (λy=>[pt bg (.cells (cond y.ok (iI (uG d.shape d.w d.h d.holes) y.vh y.vc) Em))]) (nX d.shape d.w d.h d.holes) (λy=>y.ok=true↔nG d.shape d.w d.h d.holes):=by
 refine aK _ (aP 221) λB w0=>?_;refine go ?_;refine ax (Mv (s:=d.shape) (w:=d.w) (h:=d.h) (holes:=d.holes) (vh:=vh) hT.w hT.h hT.holes) (next:=λy hy=>?_);obtain⟨ok,v1,v2⟩:=y;cases ok with
 |false=>
  dsimp only[mkV,nX,cond,List.nil_append]at hy⊢;refine go ?_;exact ae ⟨false,v1,v2⟩ (hv:=rfl) (hp:=hy)
 |true=>
  dsimp only[mkV,nX,cond,je,uG,List.cons_append,List.nil_append]at hy⊢;refine go ?_;exact ae ⟨true,v1,v2⟩ (hv:=rfl) (hp:=hy) (hF:=by show Sub [ah aa v1 d.holes,ah aa v2 (lU d.w d.h d.holes)] _;exact .cons (by simp) (.cons (by simp) .nil))
theorem ae1{b bg:Nat}{d:bD}{vh vs vr vc vu gh gc:Value}{g:bq}(hS:lX d)(hG:pK g):bz Tryz.prog (.func 222) [] [ptr' b,ptr' bg] [] (eB bg 0 (iI g gh gc)::ah aa gh g.holes::ah aa gc g.cells::tF b d vh vs vr vc vu) (λe:Int=>.int .i64 e) (λ_=>[]) (λ_=>[]) (λe=>e=0↔∀r∈d.regions,yj g r):=by
 refine aK _ (aP 222) λB w0=>?_;refine go ?_;refine ax (aeW (d:=d) (vh:=vh) (vs:=vs) (vr:=vr) (vc:=vc) (vu:=vu) (g:=g) (gh:=gh) (gc:=gc) hS hG) (next:=λe he=>?_);refine go ?_;exact ae e (hv:=rfl) (hp:=he)
theorem ae2{b:Nat}{d:bD}{vh vs vr vc vu:Value}(hS:lX d):bz Tryz.prog (.func 224) [] [ptr' b] [] (tF b d vh vs vr vc vu) (λe:Int=>.int .i64 e) (λ_=>[]) (λ_=>[]) (λe=>e=0↔IB d):=by
 refine aK _ (aP 224) λB w0=>?_;refine go ?_;refine ax (aeQ (d:=d) (vh:=vh) (vs:=vs) (vr:=vr) (vc:=vc) (vu:=vu) hS) (next:=λc hc=>?_);refine go ?_;refine ax (pM (b:=c) (e:=170)) (next:=λ_ _=>?_);refine go ?_;cases c with
 |false=>exact ae 170 (hv:=rfl) (hp:=⟨(λh=>by cases h),λh=>absurd (hc.2 h) (by simp)⟩)
 |true=>exact ae 0 (hv:=rfl) (hp:=⟨λ_=>hc.1 rfl,λ_=>rfl⟩)
theorem ae3{b:Nat}{d:bD}{vh vs vr vc vu:Value}(hS:lX d):bz Tryz.prog (.func 226) [] [ptr' b] [] (tF b d vh vs vr vc vu) (λe:Int=>.int .i64 e) (λ_=>[]) (λ_=>[]) (λe=>e=0↔iV d.rules=[]):=by
 refine aK _ (aP 226) λB w0=>?_;refine go ?_;refine ax (aez (d:=d) (vh:=vh) (vs:=vs) (vr:=vr) (vc:=vc) (vu:=vu) hS.kg) (next:=λv _=>?_);refine go ?_;by_cases h:iV d.rules=[]
 ·rw[show decide (((iV d.rules).length:Int)=0)=true from dZ (by rw[h];rfl)];refine ax (pM (b:=true) (e:=171)) (next:=λ_ _=>?_);refine go ?_;exact ae 0 (hv:=rfl) (hp:=⟨λ_=>h,λ_=>rfl⟩)
 ·rw[show decide (((iV d.rules).length:Int)=0)=false from aT (λe=>h (jI.1 (by omega)))];refine ax (pM (b:=false) (e:=171)) (next:=λ_ _=>?_);refine go ?_;exact ae 171 (hv:=rfl) (hp:=⟨(λh=>by cases h),λe=>absurd e h⟩)
theorem ae4{d:bD}{vh vs vr vc vu:Value}(hT:sV d):bz Tryz.prog (.func 151) [.agg ⟨gq d vh vs vr vc vu⟩] [] [] (kG d vh vs vr vc vu) (λe:Int=>.int .i64 e) (λ_=>[]) (λ_=>[]) (λe=>e=0↔EA d):=by
 have hS:=hT.s;refine aK _ (aP 151) λB w0=>?_;refine go ?_;intro b1 b3 b14;refine bC (eH (b:=b1)) (h:=?_);refine go ?_;refine oD ?_;refine go ?_;refine ax (aeX (b:=b1) (d:=d) (vh:=vh) (vs:=vs) (vr:=vr) (vc:=vc) (vu:=vu) hS) (next:=λe he=>?_);refine go ?_;refine az rfl (λhne=>?_) (λhz=>?_)
 ·refine go ?_;exact ae e (hv:=rfl) (hp:=⟨λh=>absurd h hne,λh=>absurd (he.2 h.lim) hne⟩)
 have k1:=he.1 (iK.1 hz);clear hz he;refine go ?_;refine oD ?_;refine go ?_;refine ax (aeY (b:=b1) (d:=d) (vh:=vh) (vs:=vs) (vr:=vr) (vc:=vc) (vu:=vu) hS) (next:=λe he=>?_);refine go ?_;refine az rfl (λhne=>?_) (λhz=>?_)
 ·refine go ?_;exact ae e (hv:=rfl) (hp:=⟨λh=>absurd h hne,λh=>absurd (he.2 ⟨h.rs,h.same⟩) hne⟩)
 have k2:=he.1 (iK.1 hz);clear hz he;refine go ?_;refine oD ?_;refine go ?_;refine ax (aeZ (b:=b1) (d:=d) (vh:=vh) (vs:=vs) (vr:=vr) (vc:=vc) (vu:=vu)) (next:=λe he=>?_);refine go ?_;refine az rfl (λhne=>?_) (λhz=>?_)
 ·refine go ?_;exact ae e (hv:=rfl) (hp:=⟨λh=>absurd h hne,λh=>absurd (he.2 h.MZ) hne⟩)
 have k3:=he.1 (iK.1 hz);clear hz he;refine go ?_;refine oD ?_;refine go ?_;refine ax (ae0 (b:=b1) (bg:=b3) (d:=d) (vh:=vh) (vs:=vs) (vr:=vr) (vc:=vc) (vu:=vu) hT) (next:=λy hy=>?_);obtain⟨ok,gh,gc⟩:=y;cases ok with
 |false=>
  dsimp only[cond,nX,List.cons_append,List.nil_append]at hy⊢;refine go ?_;exact ae 130 (hv:=rfl) (hp:=⟨(λh=>by cases h),λh=>absurd (hy.2 h.BN) (by simp)⟩)
 |true=>
 have hmk:=hy.1 rfl;have hG:=EB hmk;dsimp only[cond,nX];rw[show uG d.shape d.w d.h d.holes=aN d from rfl];dsimp only[je,List.cons_append,List.nil_append];refine bC (eH (b:=b3)) (h:=?_);refine go ?_;refine oD ?_;refine go ?_;refine ax (ae1 (b:=b1) (bg:=b3) (d:=d) (vh:=vh) (vs:=vs) (vr:=vr) (vc:=vc) (vu:=vu) (g:=aN d) (gh:=gh) (gc:=gc) hS hG) (next:=λe he=>?_);refine go ?_;refine az rfl (λhne=>?_) (λhz=>?_)
 ·refine go ?_;exact ae e (hv:=rfl) (hp:=⟨λh=>absurd h hne,λh=>absurd (he.2 h.zQ) hne⟩)
 have k5:=he.1 (iK.1 hz);clear hz he;refine go ?_;refine oD ?_;refine go ?_;refine ax (ae2 (b:=b1) (d:=d) (vh:=vh) (vs:=vs) (vr:=vr) (vc:=vc) (vu:=vu) hS) (next:=λe he=>?_);refine go ?_;refine az rfl (λhne=>?_) (λhz=>?_)
 ·refine go ?_;exact ae e (hv:=rfl) (hp:=⟨λh=>absurd h hne,λh=>absurd (he.2 h.form) hne⟩)
 have k6:=he.1 (iK.1 hz);clear hz he;refine go ?_;refine oD ?_;refine go ?_;refine ax (ae3 (b:=b1) (d:=d) (vh:=vh) (vs:=vs) (vr:=vr) (vc:=vc) (vu:=vu) hS) (next:=λe he=>?_);refine go ?_;refine az rfl (λhne=>?_) (λhz=>?_)
 ·refine go ?_;exact ae e (hv:=rfl) (hp:=⟨λh=>absurd h hne,λh=>absurd (he.2 h.read) hne⟩)
 have k7:=he.1 (iK.1 hz);clear hz he;refine go ?_;refine oD ?_;refine go ?_;exact ae 0 (hv:=rfl) (hp:=⟨λ_=>⟨k1,k2.1,k2.2,k3,hmk,k5,k6,k7⟩,λ_=>rfl⟩)
