/-
  Types: declarations that are well-formed.
-/
import Derived.Test.YtoohgkkmdnbnfaaGreatDoorLibID
set_option linter.all false
set_option maxRecDepth 10000
set_option maxHeartbeats 4000000
namespace Go.Proofs.YtoohgkkmdnbnfaaGreatDoor
open Go.Ideal Kd
structure IY(d:bF):Prop where
 dO:∀s∈d.symbols,0<=s.value/\s.value<=99
 kz:∀r∈d.rules,nQ (fQ r.kind) d.aJ r
 jm:∀(i:Nat) (c:iR),d.aJ[i]? =some c->(d.rules.map (·.aH)).count (i:Int)=1/\nP c
theorem ae0{d:bF}{vh vs vr vc vu:Value}(hS:l6 d):
 bn Tryz.prog (.func 225) [.agg ⟨gD d vh vs vr vc vu⟩] [] [] [ah fq vs d.symbols,ah bM vc d.aJ,ah aY vu d.rules] (λb:Bool=>.bool b) (λ_=>[]) (λ_=>[]) (λb=>b=true↔IY d):=by
 have hsl:=hS.dO;have hcl:=hS.jm;have yu:=hS.kz;refine aI _ (aO 225) λB w0=>?_;refine aS (E:=fq) (v:=vs) (xs:=d.symbols) (by simp) λkC cs1 es=>?_;subst es;refine aS (E:=bM) (v:=vc) (xs:=d.aJ) (by simp) λac cc ec=>?_;subst ec;refine aS (E:=aY) (v:=vu) (xs:=d.rules) (by simp) λau cu eu=>?_;subst eu;refine go ?_;intro b1;refine bA (eD (b:=b1)) (h:=?_);refine go ?_;refine aZ (λk:Nat=>d.symbols.length - k) (λk=>[(13,.int .i64 (k:Int))]) (λ_=>[]) (λ_=>[]) (λk=>k<=d.symbols.length/\∀s∈d.symbols.take k,0<=s.value/\s.value<=99) 0 ⟨bY _,by simp⟩ (body:=?_);rintro k ⟨hk,hall⟩;refine go ?_;refine ay rfl (λh1=>?_) (λh1=>?_)
 ·refine go ?_;refine bi fq (xs:=d.symbols) (next:=λ_ _ s (_:Unit) hs=>?_);have hsm:=bH hs;refine go ?_;intro b4;refine go ?_;first|with_reducible refine aN (λh2=>?_) (λh2=>?_)|with_reducible refine aM (λh2=>?_) (λh2=>?_)|with_reducible refine aK (λh2=>?_) (λh2=>?_)
  ·refine go ?_;refine ay rfl (λh3=>?_) (λh3=>?_)
   ·refine go ?_;exact ae false (hv:=rfl) (hp:=⟨(λh=>by cases h),λh=>by exfalso;have:=h.dO s hsm;omega⟩)
   ·refine go ?_;refine aP (k+1) (by show d.symbols.length - (k+1)<d.symbols.length - k;omega) ⟨by omega,?_⟩;rw[bU hs];intro x hx;rcases dZ.1 hx with hx|hx
    ·exact hall x hx
    ·rw[bI.1 hx];omega
  ·refine go ?_;exact ae false (hv:=rfl) (hp:=⟨(λh=>by cases h),λh=>by exfalso;have:=h.dO s hsm;omega⟩)
 have hks:k=d.symbols.length:=by omega
 subst hks;rw[bK]at hall;refine go ?_;refine xW jC (λbm=>?_);refine go ?_;refine aZ (λk:Nat=>d.rules.length - k) (λk=>[(30,.int .i64 (k:Int))]) (λk=>[gL jC bm (sZ ((d.rules.take k).map (·.aH)))]) (λ_=>[]) (λk=>k<=d.rules.length/\∀r∈d.rules.take k,nQ (fQ r.kind) d.aJ r) 0 ⟨bY _,by simp⟩ (hk:=by repeat (first|exact aG.nil|(apply aG.cons;(focus (repeat (first|exact az.here|apply az.there)))))) (body:=?_);rintro k ⟨hk,Aa⟩;have hcn:∀c:Int,((d.rules.take k).map (·.aH)).count c<=4096:=λc=>by
  have:=S9 c ((d.rules.take k).map (·.aH));rw[cz,gW]at this;omega
 refine go ?_;refine ay rfl (λh1=>?_) (λh1=>?_)
 ·refine go ?_;refine bi aY (xs:=d.rules) (next:=λ_ _ r (vv:Value×Value) hr=>?_);have hrm:=bH hr;have hrn:=hS.qE r hrm;refine go ?_;intro b7;refine go ?_;refine ax (aeZ (d:=d) (r:=r) (v1:=vv.1) (v2:=vv.2) hcl hrn.1 hrn.2) (next:=λb hb=>?_);cases b with
  |false=>
   refine go ?_;exact ae false (hv:=rfl) (hp:=⟨(λh=>by cases h),λh=>absurd (hb.2 (h.kz r hrm)) (by simp)⟩)
  |true=>
   have hR:=hb.1 rfl;have hc1:=hcn r.aH;have hst:sZ ((d.rules.take (k+1)).map (·.aH))=upd r.aH (.int .i64 ((((d.rules.take k).map (·.aH)).count r.aH:Nat)+1)) (sZ ((d.rules.take k).map (·.aH))):=by
    rw[bU hr,eB,nV,SX]
   refine go ?_;refine D8 (aX:=jC) (b:=bm) (ai:=sZ ((d.rules.take k).map (·.aH))) yx r.aH ?_;rw[SY];refine go ?_;refine vW (aX:=jC) (b:=bm) (v:=.int .i64 ((((d.rules.take k).map (·.aH)).count r.aH:Nat)+1)) (ai:=sZ ((d.rules.take k).map (·.aH))) yx r.aH ?_;rw[<- hst];refine go ?_;refine aP (k+1) (by show d.rules.length - (k+1)<d.rules.length - k;omega) ⟨by omega,?_⟩;rw[bU hr];intro x hx;rcases dZ.1 hx with hx|hx
   ·exact Aa x hx
   ·rw[bI.1 hx];exact hR
 have hkr:k=d.rules.length:=by omega
 subst hkr;rw[bK]at Aa hcn⊢;refine go ?_;refine aZ (λk:Nat=>d.aJ.length - k) (λk=>[(47,.int .i64 (k:Int))]) (λ_=>[]) (λ_=>[]) (λk=>k<=d.aJ.length/\∀(i:Nat) (c:iR),i<k->d.aJ[i]? =some c->(d.rules.map (·.aH)).count (i:Int)=1/\nP c) 0 ⟨bY _,λi c h=>by omega⟩ (body:=?_);rintro k ⟨hk,EG⟩;refine go ?_;refine ay rfl (λh1=>?_) (λh1=>?_)
 ·refine go ?_;refine bi bM (xs:=d.aJ) (next:=λ_ _ c (_:Unit) hc=>?_);have hck:=hcn (k:Int);refine go ?_;intro b9;refine go ?_;refine D8 (aX:=jC) (b:=bm) (ai:=sZ (d.rules.map (·.aH))) yx (k:Int) ?_;rw[SY];refine go ?_;first|with_reducible refine aN (λh2=>?_) (λh2=>?_)|with_reducible refine aM (λh2=>?_) (λh2=>?_)|with_reducible refine aK (λh2=>?_) (λh2=>?_)
  ·refine go ?_;refine ax (aeK (c:=c)) (next:=λ_ _=>?_);refine go ?_;refine eF rfl (λh3=>?_) (λh3=>?_)
   ·refine go ?_;exact ae false (hv:=rfl) (hp:=⟨(λh=>by cases h),λh=>absurd (h.jm k c hc).2 h3⟩)
   ·refine go ?_;refine aP (k+1) (by show d.aJ.length - (k+1)<d.aJ.length - k;omega) ⟨by omega,λi x hi hx=>?_⟩;by_cases hik:i=k
    ·subst hik;rw[hc]at hx;cases hx;exact⟨by omega,h3⟩
    ·exact EG i x (by omega) hx
  ·refine go ?_;exact ae false (hv:=rfl) (hp:=⟨(λh=>by cases h),λh=>by exfalso;have:=(h.jm k c hc).1;omega⟩)
 have hkc:k=d.aJ.length:=by omega
 subst hkc;refine go ?_;exact ae true (hv:=rfl) (hp:=⟨λ_=>⟨hall,Aa,λi c hc=>EG i c (bP.1 hc).1 hc⟩,λ_=>rfl⟩)
theorem ae1{v:Value}{xs:List Int}:bn Tryz.prog (.func 255) [v] [] [] [ah aa v xs] (λb:Nat=>.func (.func 290) #[] #[ptr' b]) (λ_=>[]) (λb=>[eH b 0 [v]]) (λ_=>True):=by
 refine aI _ (aO 255) λB w0=>?_;refine aS (E:=aa) (v:=v) (xs:=xs) (by simp) λa c e=>?_;subst e;refine go ?_;intro b1;refine go ?_;refine bA (eD (b:=b1)) (h:=?_);exact ae b1 (hv:=rfl) (hp:=trivial)
theorem ae2{b:Nat}{v:Value}{xs:List Int}(hl:xs.length<9223372036854775808):rG Tryz.prog (λx:Int=>[jC x]) (.func 290) [] [ptr' b] [eH b 0 [v],ah aa v xs] (λys=>ys=xs):=by
 intro S inv ok step s0 uB y1 y2 F' h0 hok hy;rw[dD,dD,bZ];refine aI _ (aO 290) λB w0=>?_;refine go ?_;refine aZ (λy:Nat×S=>xs.length - y.1) (λy=>[(7,.int .i64 (y.1:Int))]) (λy=>inv y.2) (λ_=>[]) (λy=>y.1<=xs.length/\ok (xs.take y.1) y.2/\gQ step y.2 (xs.drop y.1)=gQ step s0 xs) (0,s0) ⟨bY _,h0,rfl⟩ (body:=?_);rintro⟨k,s⟩ ⟨hk,hos,hrun⟩;dsimp only at hk hos hrun⊢;refine go ?_;refine ay rfl (λh1=>?_) (λh1=>?_)
 ·refine go ?_;intro _ _ x hx;have hd:xs.drop k=x::xs.drop (k+1):=by
   rw[pg (by omega)];congr 1;rw[cO (by omega)]at hx;exact Option.some.inj hx
  have hX:xs.take k++x::xs.drop (k+1)=xs:=by rw[<- hd,r9]
  have nO:=hy _ s _ _ hos hX;rw[hd,gQ]at hrun;refine go ?_;refine ax nO (next:=λ_ _=>?_);cases hst:(step s x).2 with
  |true=>
   have hs1:step s x=((step s x).1,true):=Prod.ext rfl hst;rw[hs1]at hrun;refine go ?_;refine aP (k+1,(step s x).1) (by show xs.length - (k+1)<xs.length - k;omega) ⟨by show k+1<=_;omega,?_,hrun⟩;show ok (xs.take (k+1)) _;rw[bU hx];exact hok _ s _ _ hos hX hst
  |false=>
   have hs1:step s x=((step s x).1,false):=Prod.ext rfl hst;rw[hs1]at hrun;dsimp only at hrun;refine go ?_;exact ae xs (hv:=rfl) (hp:=rfl) (hk:=by rw[<- hrun];exact aG.all _)
 have hke:k=xs.length:=by omega
 subst hke;rw[List.drop_length]at hrun;refine go ?_;exact ae xs (hv:=rfl) (hp:=rfl) (hk:=by rw[<- hrun];exact aG.all _)
abbrev Nj(P:Program)(fn:Fn)(first cap:List Value)(F:List aF)(p:List Int->Bool)(x:List Int):Prop:=
 ∀v:Value,bn P fn (first++[v]) cap [] (ah aa v x::F) (λ_:Unit=>.bool (p x)) (λ_=>[]) (λ_=>[]) (λ_=>True)
theorem ae3{fn:Fn}{first cap:List Value}{F1:List aF}{p:List Int->Bool}{va:Value}{xs:List (List Int)}(hl:xs.length<9223372036854775808)(hp:∀x∈xs,Nj Tryz.prog fn first cap F1 p x):
 bn Tryz.prog (.func 291) [va,.func fn ⟨first⟩ ⟨cap⟩] [] [ap (aj aa) va xs] F1 (λr:Int=>.int .i64 r) (λ_=>[ap (aj aa) va xs]) (λ_=>[]) (λr=>(0<=r↔xs.any p=true)):=by
 refine aI _ (aO 291) λB w0=>?_;refine oV (E:=aj aa) (v:=va) (xs:=xs) λa hv=>?_;subst hv;refine go ?_;refine aZ (λk=>xs.length - k) (λk:Nat=>[(8,.int .i64 (k:Int))]) (λ_=>[]) (λ_=>[]) (λk=>k<=xs.length/\(xs.take k).any p=false) 0 ⟨by omega,by simp⟩ (body:=?_);rintro k ⟨hk,hno⟩;refine go ?_;refine ay rfl (λh1=>?_) (λh1=>?_)
 ·have hx:xs[k]? =some (xs[k]'(by omega)):=cO _;generalize xs[k]'(by omega)=x at hx;refine go ?_;refine HZ aa (v:=.slice a xs.length xs.length) (xss:=xs) k x hx (next:=λb o u=>?_);refine go ?_;refine ax (hp x (bH hx) u) (next:=λ_ _=>?_);refine go ?_;refine jZ rfl (λh2=>?_) (λh2=>?_)
  ·refine go ?_;exact ae (k:Int) (hv:=rfl) (hp:=⟨λ_=>List.any_eq_true.2 ⟨x,bH hx,h2⟩,λ_=>by omega⟩)
  ·refine go ?_;refine aP (k+1) (by omega) ⟨by omega,?_⟩;rw[bU hx,List.any_append,hno];simp[h2]
 refine go ?_;have:k=xs.length:=by omega
 subst this;rw[bK]at hno;exact ae (-1) (hv:=rfl) (hp:=⟨λh=>by omega,λh=>by rw[hno]at h;cases h⟩)
theorem ae4{fn:Fn}{first cap:List Value}{F1:List aF}{p:List Int->Bool}{va:Value}{xs:List (List Int)}(hl:xs.length<9223372036854775808)(hp:∀x∈xs,Nj Tryz.prog fn first cap F1 p x):
 bn Tryz.prog (.func 256) [va,.func fn ⟨first⟩ ⟨cap⟩] [] [ap (aj aa) va xs] F1 (λ_:Unit=>.bool (xs.any p)) (λ_=>[ap (aj aa) va xs]) (λ_=>[]) (λ_=>True):=by
 refine aI _ (aO 256) λB w0=>?_;refine go ?_;refine ax (ae3 hl hp) (next:=λr hr=>?_);refine go ?_;refine ae () (hv:=?_) (hp:=trivial);have:xs.any p=decide (0<=r):=by rw[wS,qg];exact hr.symm
 rw[this];rfl
theorem ae5{b:Nat}{vx:Value}{zs:List Int}(hl:zs.length<9223372036854775808)(ys:List Int):Nj Tryz.prog (.func 257) [] [ptr' b] [eH b 0 [vx],ah aa vx zs] (λy=>decide (zs=y)) ys:=by
 intro v;rw[bZ];refine aI _ (aO 257) λB w0=>?_;refine go ?_;refine ax (zT (xs:=zs) (ys:=ys) hl) (next:=λ_ _=>?_);refine go ?_;exact ae () (hv:=rfl) (hp:=trivial)
def yA(g:bC)(r:lX):Prop:=(fw g/\yf g r.lists)/\(r.lists.map dn).Nodup
theorem ae6{d:bF}{vh vs vr vc vu gh gc:Value}{g:bC}(hS:l6 d)(hG:pV g):
 bn Tryz.prog (.func 223) [.agg ⟨gD d vh vs vr vc vu⟩,.agg ⟨iO g gh gc⟩] [] [] (ah eG vr d.regions::jq g gh gc) (λe:Int=>.int .i64 e) (λ_=>[]) (λ_=>[]) (λe=>e=0↔∀r∈d.regions,yA g r):=by
 have hrl:=hS.regs;refine aI _ (aO 223) λB w0=>?_;refine aS (E:=eG) (v:=vr) (xs:=d.regions) (by simp) λar cr er=>?_;subst er;refine go ?_;intro b2 b3;refine bA (eD (b:=b2)) (h:=?_);refine bA (eD (b:=b3)) (h:=?_);refine go ?_;refine aZ (λk:Nat=>d.regions.length - k) (λk=>[(16,.int .i64 (k:Int))]) (λ_=>[]) (λ_=>[]) (λk=>k<=d.regions.length/\∀r∈d.regions.take k,yA g r) 0 ⟨bY _,by simp⟩ (body:=?_);rintro k ⟨hk,hall⟩;refine go ?_;refine ay rfl (λh1=>?_) (λh1=>?_)
 ·refine go ?_;refine bi eG (xs:=d.regions) (next:=λ_ _ r (vl:Value) hr=>?_);have hrm:=bH hr;obtain⟨hl1,hl2⟩:=hS.qF r hrm;refine go ?_;intro b6;refine go ?_;refine ax (Ut (g:=g) (vh:=gh) (vc:=gc) (vr:=vl) (rs:=r.lists) hG hl1 hl2) (next:=λy hy=>?_);obtain⟨v7,e⟩:=y;dsimp only at hy⊢;refine go ?_;refine ay rfl (λh2=>?_) (λh2=>?_)
  ·refine go ?_;exact ae e (hv:=rfl) (hp:=⟨(λh=>absurd h h2),λh=>absurd (hy.2 (h r hrm).1) h2⟩)
  have he:e=0:=iI.1 h2;obtain⟨hg,hro⟩:=hy.1 he;have hgl:=hg.len;have hrl2:=hro.len;refine aS (E:=aj aa) (v:=vl) (xs:=r.lists) (by simp) λal cl el=>?_;subst el;refine go ?_;refine fZ (aj aa) ?_;refine aZ (λy:Nat×Value=>r.lists.length - y.1) (λy=>[(33,.int .i64 (y.1:Int)),(9,y.2)]) (λy=>[ap (aj aa) y.2 ((r.lists.take y.1).map dn)]) (λ_=>[]) (λy=>y.1<=r.lists.length/\((r.lists.take y.1).map dn).Nodup) (0,.slice none 0 0) ⟨bY _,by simp⟩ (hk:=by repeat (first|exact aG.nil|(apply aG.cons;(focus (repeat (first|exact az.here|apply az.there)))))) (body:=?_);rintro⟨j,v9⟩ ⟨hj,hnd⟩;dsimp only at hj hnd⊢;have hjl:((r.lists.take j).map dn).length=j:=by rw[cz,gW];omega
  refine go ?_;refine ay rfl (λh3=>?_) (λh3=>?_)
  ·refine go ?_;refine bi (aj aa) (xs:=r.lists) (next:=λ_ _ ps (vp:Value) hps=>?_);have hpm:=bH hps;have hP:=hro.all ps hpm;have hpl:ps.length<=256:=by have:=Im hP.mem hP.nd;omega
   refine go ?_;refine ax (ae1 (v:=vp) (xs:=ps)) (next:=λbv _=>?_);refine go ?_;refine ax (Us (ae2 (b:=bv) (v:=vp) (xs:=ps) (by omega)) (λys h=>by rw[h];omega)) (next:=λy hy2=>?_);obtain⟨v39,zs⟩:=y;dsimp only[List.cons_append,List.nil_append]at hy2⊢;subst hy2;have hzl:=zF zs;refine bA (fV (E:=aa) (v:=v39) (xs:=dn zs)) (h:=?_);refine aS (E:=aa) (v:=v39) (xs:=dn zs) (by simp) λa39 Nk e39=>?_;subst e39;refine go ?_;intro b12;refine bA (eD (b:=b12)) (h:=?_);refine go ?_;refine ax (ae4 (fn:=.func 257) (first:=[]) (cap:=[ptr' b12]) (F1:=[eH b12 0 [.slice a39 (dn zs).length Nk],ah aa (.slice a39 (dn zs).length Nk) (dn zs)]) (p:=λy=>decide (dn zs=y)) (va:=v9) (xs:=(r.lists.take j).map dn) (by omega) (λx _=>ae5 (by omega) x)) (next:=λ_ _=>?_);have htk:(r.lists.take (j+1)).map dn=(r.lists.take j).map dn++[dn zs]:=by rw[bU hps,eB,nV]
   refine go ?_;refine jZ rfl (λh4=>?_) (λh4=>?_)
   ·refine go ?_;refine ae 161 (hv:=rfl) (hp:=⟨(λh=>by cases h),λh=>?_⟩)
    exfalso
    have h5:=(h r hrm).2;have h6:((r.lists.take (j+1)).map dn).Nodup:=h5.sublist ((Om _ _).map _);rw[htk,iP]at h6;obtain⟨x,hx,hx2⟩:=List.any_eq_true.1 h4;exact h6.2.2 x hx _ (bI.2 rfl) (gX hx2).symm
   ·refine go ?_;intro b45;refine go ?_;refine eO (xs:=(r.lists.take j).map dn) (aj aa) (dn zs) (.slice a39 (dn zs).length Nk) (by omega) (next:=λad=>?_);rw[<- htk];refine go ?_;refine aP (j+1,.slice ad (((r.lists.take j).map dn).length+1) (((r.lists.take j).map dn).length+1)) (by show r.lists.length - (j+1)<r.lists.length - j;omega) ⟨by show j+1<=_;omega,?_⟩;show((r.lists.take (j+1)).map dn).Nodup;rw[htk,iP];refine⟨hnd,by simp,λa ha b hb e=>?_⟩;rw[bI.1 hb]at e;subst e;rw[List.any_eq_false]at h4;exact h4 _ ha (dS rfl)
  have ig:j=r.lists.length:=by omega
  subst ig;rw[bK]at hnd;refine go ?_;refine aP (k+1) (by show d.regions.length - (k+1)<d.regions.length - k;omega) ⟨by omega,?_⟩;rw[bU hr];intro x hx;rcases dZ.1 hx with hx|hx
  ·exact hall x hx
  ·rw[bI.1 hx];exact⟨⟨hg,hro⟩,hnd⟩
 have hke:k=d.regions.length:=by omega
 subst hke;rw[bK]at hall;refine go ?_;exact ae 0 (hv:=rfl) (hp:=⟨λ_=>hall,λ_=>rfl⟩)
structure Ux(d:bF):Prop where
 s0:0<d.symbols.length
 s1:d.symbols.length<=16
 r:d.regions.length<=4
 c:d.aJ.length<=4
 u:d.rules.length<=16
structure EH(d:bF):Prop where
 lim:Ux d
 rs:BJ d
 same:Kd.bG d=d
 Nl:1<=d.version/\d.version<=255
 Ca:nL d.shape d.w d.h d.holes
 Ab:∀r∈d.regions,yA (aR d) r
 form:IY d
 read:jb d.rules=[]
structure tH(d:bF):Prop where
 s:l6 d
 w:j3 d.w
 h:j3 d.h
 holes:d.holes.length<4611686018427387904
theorem EI{d:bF}(hm:nL d.shape d.w d.h d.holes):pV (aR d):=by
 have hb:=wh hm.wi hm.he;have h1:=hm.wi;have h2:=hm.he;have h3:=hm.len;have h4:=BK (d.w*d.h).toNat d.holes;refine⟨?_,?_,?_,?_⟩
 ·show j3 d.w;unfold j3;omega
 ·show j3 d.h;unfold j3;omega
 ·show d.holes.length<_;omega
 ·show(lZ d.w d.h d.holes).length<_;unfold lZ;omega
abbrev tF(b:Nat)(d:bF)(vh vs vr vc vu:Value):List aF:=eH b 0 (gD d vh vs vr vc vu)::kM d vh vs vr vc vu
theorem ae7{b:Nat}{d:bF}{vh vs vr vc vu:Value}(hS:l6 d):bn Tryz.prog (.func 217) [] [ptr' b] [] (tF b d vh vs vr vc vu) (λe:Int=>.int .i64 e) (λ_=>[]) (λ_=>[]) (λe=>e=0↔Ux d):=by
 have hsl:=hS.dO;have hrl:=hS.regs;have hcl:=hS.jm;have yu:=hS.kz;refine aI _ (aO 217) λB w0=>?_;refine go ?_;first|with_reducible refine aN (λh1=>?_) (λh1=>?_)|with_reducible refine aM (λh1=>?_) (λh1=>?_)|with_reducible refine aK (λh1=>?_) (λh1=>?_)
 ·refine go ?_;refine ax (pW (b:=false) (e:=2)) (next:=λ_ _=>?_);refine go ?_;refine ae _ (hv:=rfl) (hp:=⟨λh=>?_,λh=>?_⟩)
  ·cases h
  ·exact absurd h.s0 (by omega)
 refine go ?_;first|with_reducible refine aN (λh2=>?_) (λh2=>?_)|with_reducible refine aM (λh2=>?_) (λh2=>?_)|with_reducible refine aK (λh2=>?_) (λh2=>?_)
 ·refine go ?_;refine ax (pW (b:=false) (e:=2)) (next:=λ_ _=>?_);refine go ?_;refine ae _ (hv:=rfl) (hp:=⟨λh=>?_,λh=>?_⟩)
  ·cases h
  ·exact absurd h.s1 (by omega)
 refine go ?_;first|with_reducible refine aN (λh3=>?_) (λh3=>?_)|with_reducible refine aM (λh3=>?_) (λh3=>?_)|with_reducible refine aK (λh3=>?_) (λh3=>?_)
 ·refine go ?_;refine ax (pW (b:=false) (e:=2)) (next:=λ_ _=>?_);refine go ?_;refine ae _ (hv:=rfl) (hp:=⟨λh=>?_,λh=>?_⟩)
  ·cases h
  ·exact absurd h.r (by omega)
 refine go ?_;first|with_reducible refine aN (λh4=>?_) (λh4=>?_)|with_reducible refine aM (λh4=>?_) (λh4=>?_)|with_reducible refine aK (λh4=>?_) (λh4=>?_)
 ·refine go ?_;refine ax (pW (b:=false) (e:=2)) (next:=λ_ _=>?_);refine go ?_;refine ae _ (hv:=rfl) (hp:=⟨λh=>?_,λh=>?_⟩)
  ·cases h
  ·exact absurd h.c (by omega)
 refine go ?_;by_cases h5:d.rules.length<=16
 ·rw[show decide ((d.rules.length:Int)<=16)=true from dS (by omega)];refine ax (pW (b:=true) (e:=2)) (next:=λ_ _=>?_);refine go ?_;refine ae _ (hv:=rfl) (hp:=⟨λh=>?_,λh=>?_⟩)
  ·exact⟨by omega,by omega,by omega,by omega,h5⟩
  ·rfl
 ·rw[show decide ((d.rules.length:Int)<=16)=false from aU (by omega)];refine ax (pW (b:=false) (e:=2)) (next:=λ_ _=>?_);refine go ?_;refine ae _ (hv:=rfl) (hp:=⟨λh=>?_,λh=>?_⟩)
  ·cases h
  ·exact absurd h.u h5
theorem l6.bG{d:bF}(hS:l6 d):l6 (Kd.bG d):=by
 refine⟨hS.dO,hS.regs,?_,?_,?_,hS.holes,hS.qF⟩
 ·show(d.aJ.map _).length<=_;rw[cz];exact hS.jm
 ·show(d.rules.map _).length<=_;rw[cz];exact hS.kz
 ·intro r hr;obtain⟨q,hq,rfl⟩:=fE.1 (show r∈d.rules.map _ from hr);exact hS.qE q hq
theorem ae8{b:Nat}{d:bF}{vh vs vr vc vu:Value}(hS:l6 d):bn Tryz.prog (.func 219) [] [ptr' b] [] (tF b d vh vs vr vc vu) (λe:Int=>.int .i64 e) (λ_=>[]) (λ_=>[]) (λe=>e=0↔BJ d/\Kd.bG d=d):=by
 refine aI _ (aO 219) λB w0=>?_;refine go ?_;refine ax (TS (d:=d) hS) (next:=λy hy=>?_);obtain⟨ok,e,v1,v2⟩:=y;dsimp only[qD,nN,zU]at hy⊢;cases ok with
 |false=>
  obtain⟨he,hno⟩:=hy.2 rfl;dsimp only[cond];refine go ?_;intro b2;refine go ?_;refine ay rfl (λh1=>?_) (λh1=>?_)
  ·refine go ?_;exact ae e (hv:=rfl) (hp:=⟨λh=>absurd h he,λh=>absurd h.1 hno⟩)
  ·exact absurd (iI.1 h1) he
 |true=>
  obtain⟨he,hres⟩:=hy.1 rfl;subst he;dsimp only[cond,List.cons_append,List.nil_append];refine go ?_;intro b2;refine go ?_;have hsy:cK Tryz.prog 105 [.agg ⟨gD (Kd.bG d) vh vs vr v1 v2⟩,.agg ⟨gD d vh vs vr vc vu⟩] [ah aa vh d.holes,ah fq vs d.symbols,ah eG vr d.regions,ah bM v1 (Kd.bG d).aJ,ah aY v2 (Kd.bG d).rules,ah bM vc d.aJ,ah aY vu d.rules] (.bool (decide (Kd.bG d=d))):=
   (TY (x:=Kd.bG d) (y:=d) (h1:=vh) (s1:=vs) (r1:=vr) (c1:=v1) (u1:=v2) (h2:=vh) (s2:=vs) (r2:=vr) (c2:=vc) (u2:=vu) hS.bG).facts (λf hf=>by
     simp only[kM,dD,bZ,dH,Fe,or_false]at hf⊢;rcases hf with rfl|rfl|rfl|rfl|rfl|rfl|rfl|rfl|rfl|rfl
     ·exact .inl rfl
     ·exact .inr (.inl rfl)
     ·exact .inr (.inr (.inl rfl))
     ·simp
     ·simp
     ·exact .inl rfl
     ·exact .inr (.inl rfl)
     ·exact .inr (.inr (.inl rfl))
     ·simp
     ·simp)
  refine ax hsy (next:=λ_ _=>?_);refine go ?_;by_cases hr:Kd.bG d=d
  ·rw[dS hr];refine ax (pW (b:=true) (e:=170)) (next:=λ_ _=>?_);refine go ?_;exact ae 0 (hv:=rfl) (hp:=⟨λ_=>⟨hres,hr⟩,λ_=>rfl⟩)
  ·rw[aU hr];refine ax (pW (b:=false) (e:=170)) (next:=λ_ _=>?_);refine go ?_;exact ae 170 (hv:=rfl) (hp:=⟨(λh=>by cases h),λh=>absurd h.2 hr⟩)
theorem ae9{b:Nat}{d:bF}{vh vs vr vc vu:Value}:bn Tryz.prog (.func 220) [] [ptr' b] [] (tF b d vh vs vr vc vu) (λe:Int=>.int .i64 e) (λ_=>[]) (λ_=>[]) (λe=>e=0↔(1<=d.version/\d.version<=255)):=by
 refine aI _ (aO 220) λB w0=>?_;refine go ?_;first|with_reducible refine aN (λh1=>?_) (λh1=>?_)|with_reducible refine aM (λh1=>?_) (λh1=>?_)|with_reducible refine aK (λh1=>?_) (λh1=>?_)
 ·refine go ?_;refine ax (pW (b:=false) (e:=170)) (next:=λ_ _=>?_);refine go ?_;exact ae 170 (hv:=rfl) (hp:=⟨(λh=>by cases h),λh=>by exfalso;omega⟩)
 refine go ?_;by_cases h2:d.version<=255
 ·rw[dS h2];refine ax (pW (b:=true) (e:=170)) (next:=λ_ _=>?_);refine go ?_;exact ae 0 (hv:=rfl) (hp:=⟨λ_=>⟨by omega,h2⟩,λ_=>rfl⟩)
 ·rw[aU h2];refine ax (pW (b:=false) (e:=170)) (next:=λ_ _=>?_);refine go ?_;exact ae 170 (hv:=rfl) (hp:=⟨(λh=>by cases h),λh=>absurd h.2 h2⟩)
theorem afa{b bg:Nat}{d:bF}{vh vs vr vc vu:Value}(hT:tH d):bn Tryz.prog (.func 221) [] [ptr' b,ptr' bg] [pt bg (.cells Ew)] (tF b d vh vs vr vc vu) (λy:MQ=>.int .i64 (cond y.ok 0 130))
 (λy=>[pt bg (.cells (cond y.ok (iO (uN d.shape d.w d.h d.holes) y.vh y.vc) Ew))]) (oq d.shape d.w d.h d.holes) (λy=>y.ok=true↔nL d.shape d.w d.h d.holes):=by
 refine aI _ (aO 221) λB w0=>?_;refine go ?_;refine ax (MS (s:=d.shape) (w:=d.w) (h:=d.h) (holes:=d.holes) (vh:=vh) hT.w hT.h hT.holes) (next:=λy hy=>?_);obtain⟨ok,v1,v2⟩:=y;cases ok with
 |false=>
  dsimp only[mkV,oq,cond,List.nil_append]at hy⊢;refine go ?_;exact ae ⟨false,v1,v2⟩ (hv:=rfl) (hp:=hy)
 |true=>
  dsimp only[mkV,oq,cond,jq,uN,List.cons_append,List.nil_append]at hy⊢;refine go ?_;exact ae ⟨true,v1,v2⟩ (hv:=rfl) (hp:=hy) (hF:=by show Sub [ah aa v1 d.holes,ah aa v2 (lZ d.w d.h d.holes)] _;exact .cons (by simp) (.cons (by simp) .nil))
theorem afb{b bg:Nat}{d:bF}{vh vs vr vc vu gh gc:Value}{g:bC}(hS:l6 d)(hG:pV g):bn Tryz.prog (.func 222) [] [ptr' b,ptr' bg] [] (eH bg 0 (iO g gh gc)::ah aa gh g.holes::ah aa gc g.cells::tF b d vh vs vr vc vu) (λe:Int=>.int .i64 e) (λ_=>[]) (λ_=>[]) (λe=>e=0↔∀r∈d.regions,yA g r):=by
 refine aI _ (aO 222) λB w0=>?_;refine go ?_;refine ax (ae6 (d:=d) (vh:=vh) (vs:=vs) (vr:=vr) (vc:=vc) (vu:=vu) (g:=g) (gh:=gh) (gc:=gc) hS hG) (next:=λe he=>?_);refine go ?_;exact ae e (hv:=rfl) (hp:=he)
theorem afc{b:Nat}{d:bF}{vh vs vr vc vu:Value}(hS:l6 d):bn Tryz.prog (.func 224) [] [ptr' b] [] (tF b d vh vs vr vc vu) (λe:Int=>.int .i64 e) (λ_=>[]) (λ_=>[]) (λe=>e=0↔IY d):=by
 refine aI _ (aO 224) λB w0=>?_;refine go ?_;refine ax (ae0 (d:=d) (vh:=vh) (vs:=vs) (vr:=vr) (vc:=vc) (vu:=vu) hS) (next:=λc hc=>?_);refine go ?_;refine ax (pW (b:=c) (e:=170)) (next:=λ_ _=>?_);refine go ?_;cases c with
 |false=>exact ae 170 (hv:=rfl) (hp:=⟨(λh=>by cases h),λh=>absurd (hc.2 h) (by simp)⟩)
 |true=>exact ae 0 (hv:=rfl) (hp:=⟨λ_=>hc.1 rfl,λ_=>rfl⟩)
theorem afd{b:Nat}{d:bF}{vh vs vr vc vu:Value}(hS:l6 d):bn Tryz.prog (.func 226) [] [ptr' b] [] (tF b d vh vs vr vc vu) (λe:Int=>.int .i64 e) (λ_=>[]) (λ_=>[]) (λe=>e=0↔jb d.rules=[]):=by
 refine aI _ (aO 226) λB w0=>?_;refine go ?_;refine ax (aeJ (d:=d) (vh:=vh) (vs:=vs) (vr:=vr) (vc:=vc) (vu:=vu) hS.kz) (next:=λv _=>?_);refine go ?_;by_cases h:jb d.rules=[]
 ·rw[show decide (((jb d.rules).length:Int)=0)=true from dS (by rw[h];rfl)];refine ax (pW (b:=true) (e:=171)) (next:=λ_ _=>?_);refine go ?_;exact ae 0 (hv:=rfl) (hp:=⟨λ_=>h,λ_=>rfl⟩)
 ·rw[show decide (((jb d.rules).length:Int)=0)=false from aU (λe=>h (jM.1 (by omega)))];refine ax (pW (b:=false) (e:=171)) (next:=λ_ _=>?_);refine go ?_;exact ae 171 (hv:=rfl) (hp:=⟨(λh=>by cases h),λe=>absurd e h⟩)
theorem afe{d:bF}{vh vs vr vc vu:Value}(hT:tH d):bn Tryz.prog (.func 151) [.agg ⟨gD d vh vs vr vc vu⟩] [] [] (kM d vh vs vr vc vu) (λe:Int=>.int .i64 e) (λ_=>[]) (λ_=>[]) (λe=>e=0↔EH d):=by
 have hS:=hT.s;refine aI _ (aO 151) λB w0=>?_;refine go ?_;intro b1 b3 b14;refine bA (eD (b:=b1)) (h:=?_);refine go ?_;refine oJ ?_;refine go ?_;refine ax (ae7 (b:=b1) (d:=d) (vh:=vh) (vs:=vs) (vr:=vr) (vc:=vc) (vu:=vu) hS) (next:=λe he=>?_);refine go ?_;refine ay rfl (λhne=>?_) (λhz=>?_)
 ·refine go ?_;exact ae e (hv:=rfl) (hp:=⟨λh=>absurd h hne,λh=>absurd (he.2 h.lim) hne⟩)
 have k1:=he.1 (iI.1 hz);clear hz he;refine go ?_;refine oJ ?_;refine go ?_;refine ax (ae8 (b:=b1) (d:=d) (vh:=vh) (vs:=vs) (vr:=vr) (vc:=vc) (vu:=vu) hS) (next:=λe he=>?_);refine go ?_;refine ay rfl (λhne=>?_) (λhz=>?_)
 ·refine go ?_;exact ae e (hv:=rfl) (hp:=⟨λh=>absurd h hne,λh=>absurd (he.2 ⟨h.rs,h.same⟩) hne⟩)
 have k2:=he.1 (iI.1 hz);clear hz he;refine go ?_;refine oJ ?_;refine go ?_;refine ax (ae9 (b:=b1) (d:=d) (vh:=vh) (vs:=vs) (vr:=vr) (vc:=vc) (vu:=vu)) (next:=λe he=>?_);refine go ?_;refine ay rfl (λhne=>?_) (λhz=>?_)
 ·refine go ?_;exact ae e (hv:=rfl) (hp:=⟨λh=>absurd h hne,λh=>absurd (he.2 h.Nl) hne⟩)
 have k3:=he.1 (iI.1 hz);clear hz he;refine go ?_;refine oJ ?_;refine go ?_;refine ax (afa (b:=b1) (bg:=b3) (d:=d) (vh:=vh) (vs:=vs) (vr:=vr) (vc:=vc) (vu:=vu) hT) (next:=λy hy=>?_);obtain⟨ok,gh,gc⟩:=y;cases ok with
 |false=>
  dsimp only[cond,oq,List.cons_append,List.nil_append]at hy⊢;refine go ?_;exact ae 130 (hv:=rfl) (hp:=⟨(λh=>by cases h),λh=>absurd (hy.2 h.Ca) (by simp)⟩)
 |true=>
 have hmk:=hy.1 rfl;have hG:=EI hmk;dsimp only[cond,oq];rw[show uN d.shape d.w d.h d.holes=aR d from rfl];dsimp only[jq,List.cons_append,List.nil_append];refine bA (eD (b:=b3)) (h:=?_);refine go ?_;refine oJ ?_;refine go ?_;refine ax (afb (b:=b1) (bg:=b3) (d:=d) (vh:=vh) (vs:=vs) (vr:=vr) (vc:=vc) (vu:=vu) (g:=aR d) (gh:=gh) (gc:=gc) hS hG) (next:=λe he=>?_);refine go ?_;refine ay rfl (λhne=>?_) (λhz=>?_)
 ·refine go ?_;exact ae e (hv:=rfl) (hp:=⟨λh=>absurd h hne,λh=>absurd (he.2 h.Ab) hne⟩)
 have k5:=he.1 (iI.1 hz);clear hz he;refine go ?_;refine oJ ?_;refine go ?_;refine ax (afc (b:=b1) (d:=d) (vh:=vh) (vs:=vs) (vr:=vr) (vc:=vc) (vu:=vu) hS) (next:=λe he=>?_);refine go ?_;refine ay rfl (λhne=>?_) (λhz=>?_)
 ·refine go ?_;exact ae e (hv:=rfl) (hp:=⟨λh=>absurd h hne,λh=>absurd (he.2 h.form) hne⟩)
 have k6:=he.1 (iI.1 hz);clear hz he;refine go ?_;refine oJ ?_;refine go ?_;refine ax (afd (b:=b1) (d:=d) (vh:=vh) (vs:=vs) (vr:=vr) (vc:=vc) (vu:=vu) hS) (next:=λe he=>?_);refine go ?_;refine ay rfl (λhne=>?_) (λhz=>?_)
 ·refine go ?_;exact ae e (hv:=rfl) (hp:=⟨λh=>absurd h hne,λh=>absurd (he.2 h.read) hne⟩)
 have k7:=he.1 (iI.1 hz);clear hz he;refine go ?_;refine oJ ?_;refine go ?_;exact ae 0 (hv:=rfl) (hp:=⟨λ_=>⟨k1,k2.1,k2.2,k3,hmk,k5,k6,k7⟩,λ_=>rfl⟩)
