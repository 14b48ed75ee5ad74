/-
  Types: declarations that are well-formed.
-/
import Derived.Test.YtfakljdleblkoaaGreatLibFM
set_option linter.all false
set_option maxRecDepth 10000
set_option maxHeartbeats 4000000
namespace Go.Proofs.YtfakljdleblkoaaGreat
open Go.Ideal Kd
structure Qf(d:dN):Prop where
 eY:∀s∈d.symbols,0<=s.value/\s.value<=99
 nX:∀r∈d.rules,Gl (ic r.kind) d.bI r
 mE:∀(i:Nat) (c:iI),d.bI[i]? =some c->(d.rules.map (·.aN)).count (i:Int)=1/\wP c
theorem ai9{d:dN}{vh vs vr vc vu:Value}(hS:ru d):
 aQ Tryz.prog (.func 255) [.agg ⟨mP d vh vs vr vc vu⟩] [] [] [ah jF vs d.symbols,ah dX vc d.bI,ah bT vu d.rules] (λb:Bool=>.bool b) (λ_=>[]) (λ_=>[]) (λb=>b=true↔Qf d):=by
 have hsl:=hS.eY;have hcl:=hS.mE;have BB:=hS.nX;refine aK _ (aM 255) λB w0=>?_;refine bY (E:=jF) (v:=vs) (xs:=d.symbols) (by simp) λzY cs1 es=>?_;subst es;refine bY (E:=dX) (v:=vc) (xs:=d.bI) (by simp) λac cc ec=>?_;subst ec;refine bY (E:=bT) (v:=vu) (xs:=d.rules) (by simp) λau cu eu=>?_;subst eu;refine go ?_;intro b1;refine aZ (dH (b:=b1)) (h:=?_);refine go ?_;refine bQ (λk:Nat=>d.symbols.length - k) (λk=>[(13,.int .i64 (k:Int))]) (λ_=>[]) (λ_=>[]) (λk=>k<=d.symbols.length/\∀s∈d.symbols.take k,0<=s.value/\s.value<=99) 0 ⟨dK _,by simp⟩ (body:=?_);rintro k ⟨hk,hall⟩;refine go ?_;refine aJ rfl (λh1=>?_) (λh1=>?_)
 ·refine go ?_;refine bZ jF (xs:=d.symbols) (next:=λ_ _ s (_:Unit) hs=>?_);have hsm:=aR hs;refine go ?_;intro b4;refine go ?_;refine gG (λh2=>?_) (λh2=>?_)
  ·refine go ?_;refine aJ rfl (λh3=>?_) (λh3=>?_)
   ·refine go ?_;exact aj false (hv:=rfl) (hp:=⟨(λh=>by cases h),λh=>by exfalso;have:=h.eY s hsm;omega⟩)
   ·refine go ?_;refine bi (k+1) (by show d.symbols.length - (k+1)<d.symbols.length - k;omega) ⟨by omega,?_⟩;rw[gZ hs];intro x hx;rcases gH.1 hx with hx|hx
    ·exact hall x hx
    ·rw[bO.1 hx];omega
  ·refine go ?_;exact aj false (hv:=rfl) (hp:=⟨(λh=>by cases h),λh=>by exfalso;have:=h.eY s hsm;omega⟩)
 have hks:k=d.symbols.length:=by omega
 subst hks;rw[eH]at hall;refine go ?_;refine zJ ja (λbm=>?_);refine go ?_;refine bQ (λk:Nat=>d.rules.length - k) (λk=>[(30,.int .i64 (k:Int))]) (λk=>[gL ja bm (vC ((d.rules.take k).map (·.aN)))]) (λ_=>[]) (λk=>k<=d.rules.length/\∀r∈d.rules.take k,Gl (ic r.kind) d.bI r) 0 ⟨dK _,by simp⟩ (hk:=by repeat (first|exact aO.nil|(apply aO.cons;(focus (repeat (first|exact az.here|apply az.there)))))) (body:=?_);rintro k ⟨hk,Qg⟩;have hcn:∀c:Int,((d.rules.take k).map (·.aN)).count c<=4096:=λc=>by
  have:=agn c ((d.rules.take k).map (·.aN));rw[bJ,iL]at this;omega
 refine go ?_;refine aJ rfl (λh1=>?_) (λh1=>?_)
 ·refine go ?_;refine bZ bT (xs:=d.rules) (next:=λ_ _ r (vv:Value×Value) hr=>?_);have hrm:=aR hr;have hrn:=hS.DN r hrm;refine go ?_;intro b7;refine go ?_;refine ak (ai8 (d:=d) (r:=r) (v1:=vv.1) (v2:=vv.2) hcl hrn.1 hrn.2) (next:=λb hb=>?_);cases b with
  |false=>
   refine go ?_;exact aj false (hv:=rfl) (hp:=⟨(λh=>by cases h),λh=>absurd (hb.2 (h.nX r hrm)) (by simp)⟩)
  |true=>
   have hR:=hb.1 rfl;have hc1:=hcn r.aN;have hst:vC ((d.rules.take (k+1)).map (·.aN))=upd r.aN (.int .i64 ((((d.rules.take k).map (·.aN)).count r.aN:Nat)+1)) (vC ((d.rules.take k).map (·.aN))):=by
    rw[gZ hr,di,j5,Wi]
   refine go ?_;refine FO (aY:=ja) (b:=bm) (ax:=vC ((d.rules.take k).map (·.aN))) zX r.aN ?_;rw[Wj];refine go ?_;refine xR (aY:=ja) (b:=bm) (v:=.int .i64 ((((d.rules.take k).map (·.aN)).count r.aN:Nat)+1)) (ax:=vC ((d.rules.take k).map (·.aN))) zX r.aN ?_;rw[<- hst];refine go ?_;refine bi (k+1) (by show d.rules.length - (k+1)<d.rules.length - k;omega) ⟨by omega,?_⟩;rw[gZ hr];intro x hx;rcases gH.1 hx with hx|hx
   ·exact Qg x hx
   ·rw[bO.1 hx];exact hR
 have hkr:k=d.rules.length:=by omega
 subst hkr;rw[eH]at Qg hcn⊢;refine go ?_;refine bQ (λk:Nat=>d.bI.length - k) (λk=>[(47,.int .i64 (k:Int))]) (λ_=>[]) (λ_=>[]) (λk=>k<=d.bI.length/\∀(i:Nat) (c:iI),i<k->d.bI[i]? =some c->(d.rules.map (·.aN)).count (i:Int)=1/\wP c) 0 ⟨dK _,λi c h=>by omega⟩ (body:=?_);rintro k ⟨hk,X5⟩;refine go ?_;refine aJ rfl (λh1=>?_) (λh1=>?_)
 ·refine go ?_;refine bZ dX (xs:=d.bI) (next:=λ_ _ c (_:Unit) hc=>?_);have hck:=hcn (k:Int);refine go ?_;intro b9;refine go ?_;refine FO (aY:=ja) (b:=bm) (ax:=vC (d.rules.map (·.aN))) zX (k:Int) ?_;rw[Wj];refine go ?_;refine gG (λh2=>?_) (λh2=>?_)
  ·refine go ?_;refine ak (aiT (c:=c)) (next:=λ_ _=>?_);refine go ?_;refine pz rfl (λh3=>?_) (λh3=>?_)
   ·refine go ?_;exact aj false (hv:=rfl) (hp:=⟨(λh=>by cases h),λh=>absurd (h.mE k c hc).2 h3⟩)
   ·refine go ?_;refine bi (k+1) (by show d.bI.length - (k+1)<d.bI.length - k;omega) ⟨by omega,λi x hi hx=>?_⟩;by_cases hik:i=k
    ·subst hik;rw[hc]at hx;cases hx;exact⟨by omega,h3⟩
    ·exact X5 i x (by omega) hx
  ·refine go ?_;exact aj false (hv:=rfl) (hp:=⟨(λh=>by cases h),λh=>by exfalso;have:=(h.mE k c hc).1;omega⟩)
 have hkc:k=d.bI.length:=by omega
 subst hkc;refine go ?_;exact aj true (hv:=rfl) (hp:=⟨λ_=>⟨hall,Qg,λi c hc=>X5 i c (aW.1 hc).1 hc⟩,λ_=>rfl⟩)
noncomputable def Qh:=qJ Tryz.prog 70
theorem X6:lT Tryz.prog 70=some Qh:=by kernel_rfl
noncomputable def Qi:=qJ Tryz.prog 146
theorem X7:lT Tryz.prog 146=some Qi:=by kernel_rfl
noncomputable def Qj:=qJ Tryz.prog 71
theorem X8:lT Tryz.prog 71=some Qj:=by kernel_rfl
theorem X9{v:Value}{xs:List Int}:aQ Tryz.prog (.func 70) [v] [] [] [ah ae v xs] (λb:Nat=>.func (.func 146) #[] #[ptr' b]) (λ_=>[]) (λb=>[bz b 0 [v]]) (λ_=>True):=by
 refine aK Qh X6 λB w0=>?_;refine bY (E:=ae) (v:=v) (xs:=xs) (by simp) λa c e=>?_;subst e;refine go ?_;intro b1;refine go ?_;refine aZ (dH (b:=b1)) (h:=?_);exact aj b1 (hv:=rfl) (hp:=trivial)
theorem Ya{b:Nat}{v:Value}{xs:List Int}(hl:xs.length<9223372036854775808):zM Tryz.prog (λx:Int=>[ja x]) (.func 146) [] [ptr' b] [bz b 0 [v],ah ae v xs] (λys=>ys=xs):=by
 intro S inv ok step s0 ny y1 y2 F' h0 hok hy;rw[bX,bX,bH];refine aK Qi X7 λB w0=>?_;refine go ?_;refine bQ (λy:Nat×S=>xs.length - y.1) (λy=>[(7,.int .i64 (y.1:Int))]) (λy=>inv y.2) (λ_=>[]) (λy=>y.1<=xs.length/\ok (xs.take y.1) y.2/\bS step y.2 (xs.drop y.1)=bS step s0 xs) (0,s0) ⟨dK _,h0,rfl⟩ (body:=?_);rintro⟨k,s⟩ ⟨hk,hos,hrun⟩;dsimp only at hk hos hrun⊢;refine go ?_;refine aJ rfl (λh1=>?_) (λh1=>?_)
 ·refine go ?_;intro _ _ x hx;have hd:xs.drop k=x::xs.drop (k+1):=by
   rw[nJ (by omega)];congr 1;rw[bC (by omega)]at hx;exact Option.some.inj hx
  have hX:xs.take k++x::xs.drop (k+1)=xs:=by rw[<- hd,mM]
  have gJ:=hy _ s _ _ hos hX;rw[hd,bS]at hrun;refine go ?_;refine ak gJ (next:=λ_ _=>?_);cases hst:(step s x).2 with
  |true=>
   have hs1:step s x=((step s x).1,true):=Prod.ext rfl hst;rw[hs1]at hrun;refine go ?_;refine bi (k+1,(step s x).1) (by show xs.length - (k+1)<xs.length - k;omega) ⟨by show k+1<=_;omega,?_,hrun⟩;show ok (xs.take (k+1)) _;rw[gZ hx];exact hok _ s _ _ hos hX hst
  |false=>
   have hs1:step s x=((step s x).1,false):=Prod.ext rfl hst;rw[hs1]at hrun;dsimp only at hrun;refine go ?_;exact aj xs (hv:=rfl) (hp:=rfl) (hk:=by rw[<- hrun];exact aO.all _)
 have hke:k=xs.length:=by omega
 subst hke;rw[Cg]at hrun;refine go ?_;exact aj xs (hv:=rfl) (hp:=rfl) (hk:=by rw[<- hrun];exact aO.all _)
abbrev DZ(P:Program)(fn:Fn)(first cap:List Value)(F:List aD)(p:List Int->Bool)(x:List Int):Prop:=
 ∀v:Value,aQ P fn (first++[v]) cap [] (ah ae v x::F) (λ_:Unit=>.bool (p x)) (λ_=>[]) (λ_=>[]) (λ_=>True)
theorem aja{fn:Fn}{first cap:List Value}{F1:List aD}{p:List Int->Bool}{va:Value}{xs:List (List Int)}(hl:xs.length<9223372036854775808)(hp:∀x∈xs,DZ Tryz.prog fn first cap F1 p x):
 aQ Tryz.prog (.func 71) [va,.func fn ⟨first⟩ ⟨cap⟩] [] [ap (aB ae) va xs] F1 (λr:Int=>.int .i64 r) (λ_=>[ap (aB ae) va xs]) (λ_=>[]) (λr=>(0<=r↔xs.any p=true)):=by
 refine aK Qj X8 λB w0=>?_;refine BD (E:=aB ae) (v:=va) (xs:=xs) λa hv=>?_;subst hv;refine go ?_;refine bQ (λk=>xs.length - k) (λk:Nat=>[(8,.int .i64 (k:Int))]) (λ_=>[]) (λ_=>[]) (λk=>k<=xs.length/\(xs.take k).any p=false) 0 ⟨by omega,by simp⟩ (body:=?_);rintro k ⟨hk,hno⟩;refine go ?_;refine aJ rfl (λh1=>?_) (λh1=>?_)
 ·have hx:xs[k]? =some (xs[k]'(by omega)):=bC _;generalize xs[k]'(by omega)=x at hx;refine go ?_;refine Vt ae (v:=.slice a xs.length xs.length) (xss:=xs) k x hx (next:=λb o u=>?_);refine go ?_;refine ak (hp x (aR hx) u) (next:=λ_ _=>?_);refine go ?_;refine wz rfl (λh2=>?_) (λh2=>?_)
  ·refine go ?_;exact aj (k:Int) (hv:=rfl) (hp:=⟨λ_=>List.any_eq_true.2 ⟨x,aR hx,h2⟩,λ_=>by omega⟩)
  ·refine go ?_;refine bi (k+1) (by omega) ⟨by omega,?_⟩;rw[gZ hx,List.any_append,hno];simp[h2]
 refine go ?_;have:k=xs.length:=by omega
 subst this;rw[eH]at hno;exact aj (-1) (hv:=rfl) (hp:=⟨λh=>by omega,λh=>by rw[hno]at h;cases h⟩)
theorem ajb{fn:Fn}{first cap:List Value}{F1:List aD}{p:List Int->Bool}{va:Value}{xs:List (List Int)}(hl:xs.length<9223372036854775808)(hp:∀x∈xs,DZ Tryz.prog fn first cap F1 p x):
 aQ Tryz.prog (.func 296) [va,.func fn ⟨first⟩ ⟨cap⟩] [] [ap (aB ae) va xs] F1 (λ_:Unit=>.bool (xs.any p)) (λ_=>[ap (aB ae) va xs]) (λ_=>[]) (λ_=>True):=by
 refine aK _ (aM 296) λB w0=>?_;refine go ?_;refine ak (aja hl hp) (next:=λr hr=>?_);refine go ?_;refine aj () (hv:=?_) (hp:=trivial);have:xs.any p=decide (0<=r):=by rw[sO,kL];exact hr.symm
 rw[this];rfl
theorem ajc{b:Nat}{vx:Value}{zs:List Int}(hl:zs.length<9223372036854775808)(ys:List Int):DZ Tryz.prog (.func 297) [] [ptr' b] [bz b 0 [vx],ah ae vx zs] (λy=>decide (zs=y)) ys:=by
 intro v;rw[bH];refine aK _ (aM 297) λB w0=>?_;refine go ?_;refine ak (sF (xs:=zs) (ys:=ys) hl) (next:=λ_ _=>?_);refine go ?_;exact aj () (hv:=rfl) (hp:=trivial)
def Gm(g:cO)(r:oN):Prop:=(ik g/\yj g r.lists)/\(r.lists.map bD).Nodup
theorem ajd{d:dN}{vh vs vr vc vu gh gc:Value}{g:cO}(hS:ru d)(hG:zW g):
 aQ Tryz.prog (.func 253) [.agg ⟨mP d vh vs vr vc vu⟩,.agg ⟨oV g gh gc⟩] [] [] (ah kW vr d.regions::sG g gh gc) (λe:Int=>.int .i64 e) (λ_=>[]) (λ_=>[]) (λe=>e=0↔∀r∈d.regions,Gm g r):=by
 have hrl:=hS.regs;refine aK _ (aM 253) λB w0=>?_;refine bY (E:=kW) (v:=vr) (xs:=d.regions) (by simp) λar cr er=>?_;subst er;refine go ?_;intro b2 b3;refine aZ (dH (b:=b2)) (h:=?_);refine aZ (dH (b:=b3)) (h:=?_);refine go ?_;refine bQ (λk:Nat=>d.regions.length - k) (λk=>[(16,.int .i64 (k:Int))]) (λ_=>[]) (λ_=>[]) (λk=>k<=d.regions.length/\∀r∈d.regions.take k,Gm g r) 0 ⟨dK _,by simp⟩ (body:=?_);rintro k ⟨hk,hall⟩;refine go ?_;refine aJ rfl (λh1=>?_) (λh1=>?_)
 ·refine go ?_;refine bZ kW (xs:=d.regions) (next:=λ_ _ r (vl:Value) hr=>?_);have hrm:=aR hr;obtain⟨hl1,hl2⟩:=hS.DR r hrm;refine go ?_;intro b6;refine go ?_;refine ak (X4 (g:=g) (vh:=gh) (vc:=gc) (vr:=vl) (rs:=r.lists) hG hl1 hl2) (next:=λy hy=>?_);obtain⟨v7,e⟩:=y;dsimp only at hy⊢;refine go ?_;refine aJ rfl (λh2=>?_) (λh2=>?_)
  ·refine go ?_;exact aj e (hv:=rfl) (hp:=⟨(λh=>absurd h h2),λh=>absurd (hy.2 (h r hrm).1) h2⟩)
  have he:e=0:=jo.1 h2;obtain⟨hg,hro⟩:=hy.1 he;have hgl:=hg.len;have hrl2:=hro.len;refine bY (E:=aB ae) (v:=vl) (xs:=r.lists) (by simp) λal cl el=>?_;subst el;refine go ?_;refine lY (aB ae) ?_;refine bQ (λy:Nat×Value=>r.lists.length - y.1) (λy=>[(33,.int .i64 (y.1:Int)),(9,y.2)]) (λy=>[ap (aB ae) y.2 ((r.lists.take y.1).map bD)]) (λ_=>[]) (λy=>y.1<=r.lists.length/\((r.lists.take y.1).map bD).Nodup) (0,.slice none 0 0) ⟨dK _,by simp⟩ (hk:=by repeat (first|exact aO.nil|(apply aO.cons;(focus (repeat (first|exact az.here|apply az.there)))))) (body:=?_);rintro⟨j,v9⟩ ⟨hj,hnd⟩;dsimp only at hj hnd⊢;have hjl:((r.lists.take j).map bD).length=j:=by rw[bJ,iL];omega
  refine go ?_;refine aJ rfl (λh3=>?_) (λh3=>?_)
  ·refine go ?_;refine bZ (aB ae) (xs:=r.lists) (next:=λ_ _ ps (vp:Value) hps=>?_);have hpm:=aR hps;have hP:=hro.all ps hpm;have hpl:ps.length<=256:=by have:=OY hP.mem hP.nd;omega
   refine go ?_;refine ak (X9 (v:=vp) (xs:=ps)) (next:=λbv _=>?_);refine go ?_;refine ak (PZ (Ya (b:=bv) (v:=vp) (xs:=ps) (by omega)) (λys h=>by rw[h];omega)) (next:=λy hy2=>?_);obtain⟨v39,zs⟩:=y;dsimp only[List.cons_append,List.nil_append]at hy2⊢;subst hy2;have hzl:=xS zs;refine aZ (jk (E:=ae) (v:=v39) (xs:=bD zs)) (h:=?_);refine bY (E:=ae) (v:=v39) (xs:=bD zs) (by simp) λa39 Qk e39=>?_;subst e39;refine go ?_;intro b12;refine aZ (dH (b:=b12)) (h:=?_);refine go ?_;refine ak (ajb (fn:=.func 297) (first:=[]) (cap:=[ptr' b12]) (F1:=[bz b12 0 [.slice a39 (bD zs).length Qk],ah ae (.slice a39 (bD zs).length Qk) (bD zs)]) (p:=λy=>decide (bD zs=y)) (va:=v9) (xs:=(r.lists.take j).map bD) (by omega) (λx _=>ajc (by omega) x)) (next:=λ_ _=>?_);have htk:(r.lists.take (j+1)).map bD=(r.lists.take j).map bD++[bD zs]:=by rw[gZ hps,di,j5]
   refine go ?_;refine wz rfl (λh4=>?_) (λh4=>?_)
   ·refine go ?_;refine aj 161 (hv:=rfl) (hp:=⟨(λh=>by cases h),λh=>?_⟩)
    exfalso
    have h5:=(h r hrm).2;have h6:((r.lists.take (j+1)).map bD).Nodup:=h5.sublist ((LZ _ _).map _);rw[htk,iN]at h6;obtain⟨x,hx,hx2⟩:=List.any_eq_true.1 h4;exact h6.2.2 x hx _ (bO.2 rfl) (jg hx2).symm
   ·refine go ?_;intro b45;refine go ?_;refine jO (xs:=(r.lists.take j).map bD) (aB ae) (bD zs) (.slice a39 (bD zs).length Qk) (by omega) (next:=λad=>?_);rw[<- htk];refine go ?_;refine bi (j+1,.slice ad (((r.lists.take j).map bD).length+1) (((r.lists.take j).map bD).length+1)) (by show r.lists.length - (j+1)<r.lists.length - j;omega) ⟨by show j+1<=_;omega,?_⟩;show((r.lists.take (j+1)).map bD).Nodup;rw[htk,iN];refine⟨hnd,by simp,λa ha b hb e=>?_⟩;rw[bO.1 hb]at e;subst e;rw[List.any_eq_false]at h4;exact h4 _ ha (fQ rfl)
  have iM:j=r.lists.length:=by omega
  subst iM;rw[eH]at hnd;refine go ?_;refine bi (k+1) (by show d.regions.length - (k+1)<d.regions.length - k;omega) ⟨by omega,?_⟩;rw[gZ hr];intro x hx;rcases gH.1 hx with hx|hx
  ·exact hall x hx
  ·rw[bO.1 hx];exact⟨⟨hg,hro⟩,hnd⟩
 have hke:k=d.regions.length:=by omega
 subst hke;rw[eH]at hall;refine go ?_;exact aj 0 (hv:=rfl) (hp:=⟨λ_=>hall,λ_=>rfl⟩)
structure Yb(d:dN):Prop where
 s0:0<d.symbols.length
 s1:d.symbols.length<=16
 r:d.regions.length<=4
 c:d.bI.length<=4
 u:d.rules.length<=16
structure KW(d:dN):Prop where
 lim:Yb d
 rs:Du d
 same:Kd.dV d=d
 ver:1<=d.version/\d.version<=255
 KX:su d.shape d.w d.h d.holes
 BH:∀r∈d.regions,Gm (bE d) r
 form:Qf d
 read:l8 d.rules=[]
structure zZ(d:dN):Prop where
 s:ru d
 w:lD d.w
 h:lD d.h
 holes:d.holes.length<4611686018427387904
theorem Ql{d:dN}(hm:su d.shape d.w d.h d.holes):zW (bE d):=by
 have hb:=Dv hm.wi hm.he;have h1:=hm.wi;have h2:=hm.he;have h3:=hm.len;have h4:=JY (d.w*d.h).toNat d.holes;refine⟨?_,?_,?_,?_⟩
 ·show lD d.w;unfold lD;omega
 ·show lD d.h;unfold lD;omega
 ·show d.holes.length<_;omega
 ·show(qU d.w d.h d.holes).length<_;unfold qU;omega
abbrev tF(b:Nat)(d:dN)(vh vs vr vc vu:Value):List aD:=bz b 0 (mP d vh vs vr vc vu)::ul d vh vs vr vc vu
theorem ajf{b:Nat}{d:dN}{vh vs vr vc vu:Value}(hS:ru d):aQ Tryz.prog (.func 247) [] [ptr' b] [] (tF b d vh vs vr vc vu) (λe:Int=>.int .i64 e) (λ_=>[]) (λ_=>[]) (λe=>e=0↔Yb d):=by
 have hsl:=hS.eY;have hrl:=hS.regs;have hcl:=hS.mE;have BB:=hS.nX;refine aK _ (aM 247) λB w0=>?_;refine go ?_;refine gG (λh1=>?_) (λh1=>?_)
 ·refine go ?_;refine ak (ry (b:=false) (e:=2)) (next:=λ_ _=>?_);refine go ?_;refine aj _ (hv:=rfl) (hp:=⟨λh=>?_,λh=>?_⟩)
  ·cases h
  ·exact absurd h.s0 (by omega)
 refine go ?_;refine gG (λh2=>?_) (λh2=>?_)
 ·refine go ?_;refine ak (ry (b:=false) (e:=2)) (next:=λ_ _=>?_);refine go ?_;refine aj _ (hv:=rfl) (hp:=⟨λh=>?_,λh=>?_⟩)
  ·cases h
  ·exact absurd h.s1 (by omega)
 refine go ?_;refine gG (λh3=>?_) (λh3=>?_)
 ·refine go ?_;refine ak (ry (b:=false) (e:=2)) (next:=λ_ _=>?_);refine go ?_;refine aj _ (hv:=rfl) (hp:=⟨λh=>?_,λh=>?_⟩)
  ·cases h
  ·exact absurd h.r (by omega)
 refine go ?_;refine gG (λh4=>?_) (λh4=>?_)
 ·refine go ?_;refine ak (ry (b:=false) (e:=2)) (next:=λ_ _=>?_);refine go ?_;refine aj _ (hv:=rfl) (hp:=⟨λh=>?_,λh=>?_⟩)
  ·cases h
  ·exact absurd h.c (by omega)
 refine go ?_;by_cases h5:d.rules.length<=16
 ·rw[show decide ((d.rules.length:Int)<=16)=true from fQ (by omega)];refine ak (ry (b:=true) (e:=2)) (next:=λ_ _=>?_);refine go ?_;refine aj _ (hv:=rfl) (hp:=⟨λh=>?_,λh=>?_⟩)
  ·exact⟨by omega,by omega,by omega,by omega,h5⟩
  ·rfl
 ·rw[show decide ((d.rules.length:Int)<=16)=false from dM (by omega)];refine ak (ry (b:=false) (e:=2)) (next:=λ_ _=>?_);refine go ?_;refine aj _ (hv:=rfl) (hp:=⟨λh=>?_,λh=>?_⟩)
  ·cases h
  ·exact absurd h.u h5
theorem ru.dV{d:dN}(hS:ru d):ru (Kd.dV d):=by
 refine⟨hS.eY,hS.regs,?_,?_,?_,hS.holes,hS.DR⟩
 ·show(d.bI.map _).length<=_;rw[bJ];exact hS.mE
 ·show(d.rules.map _).length<=_;rw[bJ];exact hS.nX
 ·intro r hr;obtain⟨q,hq,rfl⟩:=cZ.1 (show r∈d.rules.map _ from hr);exact hS.DN q hq
theorem ajg{b:Nat}{d:dN}{vh vs vr vc vu:Value}(hS:ru d):aQ Tryz.prog (.func 249) [] [ptr' b] [] (tF b d vh vs vr vc vu) (λe:Int=>.int .i64 e) (λ_=>[]) (λ_=>[]) (λe=>e=0↔Du d/\Kd.dV d=d):=by
 refine aK _ (aM 249) λB w0=>?_;refine go ?_;refine ak (XD (d:=d) hS) (next:=λy hy=>?_);obtain⟨ok,e,v1,v2⟩:=y;dsimp only[zV,uz,DL]at hy⊢;cases ok with
 |false=>
  obtain⟨he,hno⟩:=hy.2 rfl;dsimp only[cond];refine go ?_;intro b2;refine go ?_;refine aJ rfl (λh1=>?_) (λh1=>?_)
  ·refine go ?_;exact aj e (hv:=rfl) (hp:=⟨λh=>absurd h he,λh=>absurd h.1 hno⟩)
  ·exact absurd (jo.1 h1) he
 |true=>
  obtain⟨he,hres⟩:=hy.1 rfl;subst he;dsimp only[cond,List.cons_append,List.nil_append];refine go ?_;intro b2;refine go ?_;have hsy:eG Tryz.prog 128 [.agg ⟨mP (Kd.dV d) vh vs vr v1 v2⟩,.agg ⟨mP d vh vs vr vc vu⟩] [ah ae vh d.holes,ah jF vs d.symbols,ah kW vr d.regions,ah dX v1 (Kd.dV d).bI,ah bT v2 (Kd.dV d).rules,ah dX vc d.bI,ah bT vu d.rules] (.bool (decide (Kd.dV d=d))):=
   (XK (x:=Kd.dV d) (y:=d) (h1:=vh) (s1:=vs) (r1:=vr) (c1:=v1) (u1:=v2) (h2:=vh) (s2:=vs) (r2:=vr) (c2:=vc) (u2:=vu) hS.dV).facts (λf hf=>by
     simp only[ul,bX,bH,bN,LK,or_false]at hf⊢;rcases hf with rfl|rfl|rfl|rfl|rfl|rfl|rfl|rfl|rfl|rfl
     ·exact .inl rfl
     ·exact .inr (.inl rfl)
     ·exact .inr (.inr (.inl rfl))
     ·simp
     ·simp
     ·exact .inl rfl
     ·exact .inr (.inl rfl)
     ·exact .inr (.inr (.inl rfl))
     ·simp
     ·simp)
  refine ak hsy (next:=λ_ _=>?_);refine go ?_;by_cases hr:Kd.dV d=d
  ·rw[fQ hr];refine ak (ry (b:=true) (e:=170)) (next:=λ_ _=>?_);refine go ?_;exact aj 0 (hv:=rfl) (hp:=⟨λ_=>⟨hres,hr⟩,λ_=>rfl⟩)
  ·rw[dM hr];refine ak (ry (b:=false) (e:=170)) (next:=λ_ _=>?_);refine go ?_;exact aj 170 (hv:=rfl) (hp:=⟨(λh=>by cases h),λh=>absurd h.2 hr⟩)
theorem ajh{b:Nat}{d:dN}{vh vs vr vc vu:Value}:aQ Tryz.prog (.func 250) [] [ptr' b] [] (tF b d vh vs vr vc vu) (λe:Int=>.int .i64 e) (λ_=>[]) (λ_=>[]) (λe=>e=0↔(1<=d.version/\d.version<=255)):=by
 refine aK _ (aM 250) λB w0=>?_;refine go ?_;refine gG (λh1=>?_) (λh1=>?_)
 ·refine go ?_;refine ak (ry (b:=false) (e:=170)) (next:=λ_ _=>?_);refine go ?_;exact aj 170 (hv:=rfl) (hp:=⟨(λh=>by cases h),λh=>by exfalso;omega⟩)
 refine go ?_;by_cases h2:d.version<=255
 ·rw[fQ h2];refine ak (ry (b:=true) (e:=170)) (next:=λ_ _=>?_);refine go ?_;exact aj 0 (hv:=rfl) (hp:=⟨λ_=>⟨by omega,h2⟩,λ_=>rfl⟩)
 ·rw[dM h2];refine ak (ry (b:=false) (e:=170)) (next:=λ_ _=>?_);refine go ?_;exact aj 170 (hv:=rfl) (hp:=⟨(λh=>by cases h),λh=>absurd h.2 h2⟩)
theorem aji{b bg:Nat}{d:dN}{vh vs vr vc vu:Value}(hT:zZ d):aQ Tryz.prog (.func 251) [] [ptr' b,ptr' bg] [pt bg (.cells Gf)] (tF b d vh vs vr vc vu) (λy:PT=>.int .i64 (cond y.ok 0 130))
 (λy=>[pt bg (.cells (cond y.ok (oV (BC d.shape d.w d.h d.holes) y.vh y.vc) Gf))]) (wO d.shape d.w d.h d.holes) (λy=>y.ok=true↔su d.shape d.w d.h d.holes):=by
 refine aK _ (aM 251) λB w0=>?_;refine go ?_;refine ak (PU (s:=d.shape) (w:=d.w) (h:=d.h) (holes:=d.holes) (vh:=vh) hT.w hT.h hT.holes) (next:=λy hy=>?_);obtain⟨ok,v1,v2⟩:=y;cases ok with
 |false=>
  dsimp only[mkV,wO,cond,List.nil_append]at hy⊢;refine go ?_;exact aj ⟨false,v1,v2⟩ (hv:=rfl) (hp:=hy)
 |true=>
  dsimp only[mkV,wO,cond,sG,BC,List.cons_append,List.nil_append]at hy⊢;refine go ?_;exact aj ⟨true,v1,v2⟩ (hv:=rfl) (hp:=hy) (hF:=by show Sub [ah ae v1 d.holes,ah ae v2 (qU d.w d.h d.holes)] _;exact .cons (by simp) (.cons (by simp) .nil))
theorem ajj{b bg:Nat}{d:dN}{vh vs vr vc vu gh gc:Value}{g:cO}(hS:ru d)(hG:zW g):aQ Tryz.prog (.func 252) [] [ptr' b,ptr' bg] [] (bz bg 0 (oV g gh gc)::ah ae gh g.holes::ah ae gc g.cells::tF b d vh vs vr vc vu) (λe:Int=>.int .i64 e) (λ_=>[]) (λ_=>[]) (λe=>e=0↔∀r∈d.regions,Gm g r):=by
 refine aK _ (aM 252) λB w0=>?_;refine go ?_;refine ak (ajd (d:=d) (vh:=vh) (vs:=vs) (vr:=vr) (vc:=vc) (vu:=vu) (g:=g) (gh:=gh) (gc:=gc) hS hG) (next:=λe he=>?_);refine go ?_;exact aj e (hv:=rfl) (hp:=he)
theorem ajk{b:Nat}{d:dN}{vh vs vr vc vu:Value}(hS:ru d):aQ Tryz.prog (.func 254) [] [ptr' b] [] (tF b d vh vs vr vc vu) (λe:Int=>.int .i64 e) (λ_=>[]) (λ_=>[]) (λe=>e=0↔Qf d):=by
 refine aK _ (aM 254) λB w0=>?_;refine go ?_;refine ak (ai9 (d:=d) (vh:=vh) (vs:=vs) (vr:=vr) (vc:=vc) (vu:=vu) hS) (next:=λc hc=>?_);refine go ?_;refine ak (ry (b:=c) (e:=170)) (next:=λ_ _=>?_);refine go ?_;cases c with
 |false=>exact aj 170 (hv:=rfl) (hp:=⟨(λh=>by cases h),λh=>absurd (hc.2 h) (by simp)⟩)
 |true=>exact aj 0 (hv:=rfl) (hp:=⟨λ_=>hc.1 rfl,λ_=>rfl⟩)
theorem ajl{b:Nat}{d:dN}{vh vs vr vc vu:Value}(hS:ru d):aQ Tryz.prog (.func 256) [] [ptr' b] [] (tF b d vh vs vr vc vu) (λe:Int=>.int .i64 e) (λ_=>[]) (λ_=>[]) (λe=>e=0↔l8 d.rules=[]):=by
 refine aK _ (aM 256) λB w0=>?_;refine go ?_;refine ak (aiS (d:=d) (vh:=vh) (vs:=vs) (vr:=vr) (vc:=vc) (vu:=vu) hS.nX) (next:=λv _=>?_);refine go ?_;by_cases h:l8 d.rules=[]
 ·rw[show decide (((l8 d.rules).length:Int)=0)=true from fQ (by rw[h];rfl)];refine ak (ry (b:=true) (e:=171)) (next:=λ_ _=>?_);refine go ?_;exact aj 0 (hv:=rfl) (hp:=⟨λ_=>h,λ_=>rfl⟩)
 ·rw[show decide (((l8 d.rules).length:Int)=0)=false from dM (λe=>h (lQ.1 (by omega)))];refine ak (ry (b:=false) (e:=171)) (next:=λ_ _=>?_);refine go ?_;exact aj 171 (hv:=rfl) (hp:=⟨(λh=>by cases h),λe=>absurd e h⟩)
theorem ajm{d:dN}{vh vs vr vc vu:Value}(hT:zZ d):aQ Tryz.prog (.func 173) [.agg ⟨mP d vh vs vr vc vu⟩] [] [] (ul d vh vs vr vc vu) (λe:Int=>.int .i64 e) (λ_=>[]) (λ_=>[]) (λe=>e=0↔KW d):=by
 have hS:=hT.s;refine aK _ (aM 173) λB w0=>?_;refine go ?_;intro b1 b3 b14;refine aZ (dH (b:=b1)) (h:=?_);refine go ?_;refine oJ ?_;refine go ?_;refine ak (ajf (b:=b1) (d:=d) (vh:=vh) (vs:=vs) (vr:=vr) (vc:=vc) (vu:=vu) hS) (next:=λe he=>?_);refine go ?_;refine aJ rfl (λhne=>?_) (λhz=>?_)
 ·refine go ?_;exact aj e (hv:=rfl) (hp:=⟨λh=>absurd h hne,λh=>absurd (he.2 h.lim) hne⟩)
 have k1:=he.1 (jo.1 hz);clear hz he;refine go ?_;refine oJ ?_;refine go ?_;refine ak (ajg (b:=b1) (d:=d) (vh:=vh) (vs:=vs) (vr:=vr) (vc:=vc) (vu:=vu) hS) (next:=λe he=>?_);refine go ?_;refine aJ rfl (λhne=>?_) (λhz=>?_)
 ·refine go ?_;exact aj e (hv:=rfl) (hp:=⟨λh=>absurd h hne,λh=>absurd (he.2 ⟨h.rs,h.same⟩) hne⟩)
 have k2:=he.1 (jo.1 hz);clear hz he;refine go ?_;refine oJ ?_;refine go ?_;refine ak (ajh (b:=b1) (d:=d) (vh:=vh) (vs:=vs) (vr:=vr) (vc:=vc) (vu:=vu)) (next:=λe he=>?_);refine go ?_;refine aJ rfl (λhne=>?_) (λhz=>?_)
 ·refine go ?_;exact aj e (hv:=rfl) (hp:=⟨λh=>absurd h hne,λh=>absurd (he.2 h.ver) hne⟩)
 have k3:=he.1 (jo.1 hz);clear hz he;refine go ?_;refine oJ ?_;refine go ?_;refine ak (aji (b:=b1) (bg:=b3) (d:=d) (vh:=vh) (vs:=vs) (vr:=vr) (vc:=vc) (vu:=vu) hT) (next:=λy hy=>?_);obtain⟨ok,gh,gc⟩:=y;cases ok with
 |false=>
  dsimp only[cond,wO,List.cons_append,List.nil_append]at hy⊢;refine go ?_;exact aj 130 (hv:=rfl) (hp:=⟨(λh=>by cases h),λh=>absurd (hy.2 h.KX) (by simp)⟩)
 |true=>
 have hmk:=hy.1 rfl;have hG:=Ql hmk;dsimp only[cond,wO];rw[show BC d.shape d.w d.h d.holes=bE d from rfl];dsimp only[sG,List.cons_append,List.nil_append];refine aZ (dH (b:=b3)) (h:=?_);refine go ?_;refine oJ ?_;refine go ?_;refine ak (ajj (b:=b1) (bg:=b3) (d:=d) (vh:=vh) (vs:=vs) (vr:=vr) (vc:=vc) (vu:=vu) (g:=bE d) (gh:=gh) (gc:=gc) hS hG) (next:=λe he=>?_);refine go ?_;refine aJ rfl (λhne=>?_) (λhz=>?_)
 ·refine go ?_;exact aj e (hv:=rfl) (hp:=⟨λh=>absurd h hne,λh=>absurd (he.2 h.BH) hne⟩)
 have k5:=he.1 (jo.1 hz);clear hz he;refine go ?_;refine oJ ?_;refine go ?_;refine ak (ajk (b:=b1) (d:=d) (vh:=vh) (vs:=vs) (vr:=vr) (vc:=vc) (vu:=vu) hS) (next:=λe he=>?_);refine go ?_;refine aJ rfl (λhne=>?_) (λhz=>?_)
 ·refine go ?_;exact aj e (hv:=rfl) (hp:=⟨λh=>absurd h hne,λh=>absurd (he.2 h.form) hne⟩)
 have k6:=he.1 (jo.1 hz);clear hz he;refine go ?_;refine oJ ?_;refine go ?_;refine ak (ajl (b:=b1) (d:=d) (vh:=vh) (vs:=vs) (vr:=vr) (vc:=vc) (vu:=vu) hS) (next:=λe he=>?_);refine go ?_;refine aJ rfl (λhne=>?_) (λhz=>?_)
 ·refine go ?_;exact aj e (hv:=rfl) (hp:=⟨λh=>absurd h hne,λh=>absurd (he.2 h.read) hne⟩)
 have k7:=he.1 (jo.1 hz);clear hz he;refine go ?_;refine oJ ?_;refine go ?_;exact aj 0 (hv:=rfl) (hp:=⟨λ_=>⟨k1,k2.1,k2.2,k3,hmk,k5,k6,k7⟩,λ_=>rfl⟩)
