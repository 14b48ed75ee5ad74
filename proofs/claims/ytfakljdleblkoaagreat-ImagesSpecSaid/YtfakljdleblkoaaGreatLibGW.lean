/-
  Part LibGW.
-/
import Derived.Test.YtfakljdleblkoaaGreatLibFW
set_option linter.all false
set_option maxRecDepth 10000
set_option maxHeartbeats 4000000
namespace Go.Proofs.YtfakljdleblkoaaGreat
open Go.Ideal Kd
structure Jm(d:bE):Prop where
 dJ:∀s∈d.symbols,0<=s.value/\s.value<=99
 lQ:∀r∈d.rules,uJ (fH r.kind) d.aJ r
 jR:∀(i:Nat) (c:iJ),d.aJ[i]? =some c->(d.rules.map (·.aQ)).count (i:Int)=1/\ow c
variable{d:bE}{vh vs vr vc vu:Value}
theorem afI(hS:mM d):
 aU Tryz.prog (.func 255) [.agg ⟨gu d vh vs vr vc vu⟩] [] [] [ai eP vs d.symbols,ai bP vc d.aJ,ai aY vu d.rules] (λb:Bool=>.bool b) (λ_=>[]) (λ_=>[]) (λb=>b=true↔Jm d):=by
 have hsl:=hS.dJ;have hcl:=hS.jR;have vV:=hS.lQ;refine aH _ (aN 255) λB w0=>?_;refine aT (E:=eP) (v:=vs) (xs:=d.symbols) vm λmh cs1 es=>?_;subst es;refine aT (E:=bP) (v:=vc) (xs:=d.aJ) vm λac cc ec=>?_;subst ec;refine aT (E:=aY) (v:=vu) (xs:=d.rules) vm λau cu eu=>?_;subst eu;refine go ?_;intro b1;refine bi (dR (b:=b1)) (h:=?_);refine go ?_;refine aW (λk:Nat=>d.symbols.length - k) (λk=>[(13,.int .i64 (k:Int))]) (λ_=>[]) (λ_=>[]) (λk=>k<=d.symbols.length/\∀s∈d.symbols.take k,0<=s.value/\s.value<=99) 0 ⟨bQ _,vm⟩ (body:=?_);rintro k ⟨hk,hall⟩;refine go ?_;refine az rfl (λh1=>?_) (λh1=>?_)
 ·refine go ?_;refine bq eP (xs:=d.symbols) (next:=λ_ _ s (_:Unit) hs=>?_);have hsm:=aP hs;refine go ?_;intro b4;refine go ?_;refine gG (λh2=>?_) (λh2=>?_)
  ·refine go ?_;refine az rfl (λh3=>?_) (λh3=>?_)
   ·exact e9
   ·exact jn
  ·exact e9
 have hks:k=d.symbols.length:=vj
 subst hks;rw[bJ]at hall;refine go ?_;refine yH jq (λbm=>?_);refine go ?_;refine aW (λk:Nat=>d.rules.length - k) (λk=>[(30,.int .i64 (k:Int))]) (λk=>[gI jq bm (uE ((d.rules.take k).map (·.aQ)))]) (λ_=>[]) (λk=>k<=d.rules.length/\∀r∈d.rules.take k,uJ (fH r.kind) d.aJ r) 0 ⟨bQ _,vm⟩ (hk:=we) (body:=?_);rintro k ⟨hk,AA⟩;have hcn:∀c:Int,((d.rules.take k).map (·.aQ)).count c<=4096:=λc=>by
  have:=TC c ((d.rules.take k).map (·.aQ));rw[cz,ig]at this;omega
 refine go ?_;refine az rfl (λh1=>?_) (λh1=>?_)
 ·refine go ?_;refine bq aY (xs:=d.rules) (next:=λ_ _ r (vv:Value×Value) hr=>?_);have hrm:=aP hr;have hrn:=hS.vT r hrm;refine go ?_;intro b7;refine go ?_;refine ax (afH (d:=d) (r:=r) (v1:=vv.1) (v2:=vv.2) hcl hrn.1 hrn.2) (next:=λb hb=>?_);cases b with
  |false=>
   exact oE
  |true=>
   have hR:=hb.1 rfl;have hc1:=hcn r.aQ;have hst:uE ((d.rules.take (k+1)).map (·.aQ))=upd r.aQ (.int .i64 ((((d.rules.take k).map (·.aQ)).count r.aQ:Nat)+1)) (uE ((d.rules.take k).map (·.aQ))):=by
    rw[bU hr,fD,r9,TA]
   refine go ?_;refine Es (aX:=jq) (b:=bm) (aj:=uE ((d.rules.take k).map (·.aQ))) yT r.aQ ?_;rw[TB];refine go ?_;refine wY (aX:=jq) (b:=bm) (v:=.int .i64 ((((d.rules.take k).map (·.aQ)).count r.aQ:Nat)+1)) (aj:=uE ((d.rules.take k).map (·.aQ))) yT r.aQ ?_;rw[<- hst];exact js
 have hkr:k=d.rules.length:=vj
 subst hkr;rw[bJ]at AA hcn⊢;refine go ?_;refine aW (λk:Nat=>d.aJ.length - k) (λk=>[(47,.int .i64 (k:Int))]) (λ_=>[]) (λ_=>[]) (λk=>k<=d.aJ.length/\∀(i:Nat) (c:iJ),i<k->d.aJ[i]? =some c->(d.rules.map (·.aQ)).count (i:Int)=1/\ow c) 0 ⟨bQ _,λi c h=>by omega⟩ (body:=?_);rintro k ⟨hk,EZ⟩;refine go ?_;refine az rfl (λh1=>?_) (λh1=>?_)
 ·refine go ?_;refine bq bP (xs:=d.aJ) (next:=λ_ _ c (_:Unit) hc=>?_);have hck:=hcn (k:Int);refine go ?_;intro b9;refine go ?_;refine Es (aX:=jq) (b:=bm) (aj:=uE (d.rules.map (·.aQ))) yT (k:Int) ?_;rw[TB];refine go ?_;refine gG (λh2=>?_) (λh2=>?_)
  ·refine go ?_;refine ax (afs (c:=c)) (next:=λ_ _=>?_);refine go ?_;refine eO rfl (λh3=>?_) (λh3=>?_)
   ·refine go ?_;exact ah false (hv:=rfl) (hp:=⟨(λh=>by cases h),λh=>absurd (h.jR k c hc).2 h3⟩)
   ·refine go ?_;refine aM (k+1) BY ⟨vj,λi x hi hx=>?_⟩;by_cases hik:i=k
    ·subst hik;rw[hc]at hx;cases hx;exact⟨vj,h3⟩
    ·exact EZ i x vj hx
  ·exact oA
 have hkc:k=d.aJ.length:=vj
 subst hkc;refine go ?_;exact ah true (hv:=rfl) (hp:=⟨λ_=>⟨hall,AA,λi c hc=>EZ i c (bC.1 hc).1 hc⟩,λ_=>rfl⟩)
noncomputable def U5:=qj Tryz.prog 70
theorem afJ:kU Tryz.prog 70=some U5:=vA
noncomputable def U6:=qj Tryz.prog 146
theorem afK:kU Tryz.prog 146=some U6:=vA
noncomputable def NN:=qj Tryz.prog 71
theorem U7:kU Tryz.prog 71=some NN:=vA
variable{v:Value}{xs:List Int}
theorem afL:aU Tryz.prog (.func 70) [v] [] [] [ai ae v xs] (λb:Nat=>.func (.func 146) #[] #[ptr' b]) (λ_=>[]) (λb=>[fA b 0 [v]]) (λ_=>True):=by
 refine aH U5 afJ λB w0=>?_;refine aT (E:=ae) (v:=v) (xs:=xs) vm λa c e=>?_;subst e;refine go ?_;intro b1;refine go ?_;refine bi (dR (b:=b1)) (h:=?_);exact ah b1 (hv:=rfl) (hp:=trivial)
variable{b:Nat}
theorem afM(hl:xs.length<9223372036854775808):yJ Tryz.prog (λx:Int=>[jq x]) (.func 146) [] [ptr' b] [fA b 0 [v],ai ae v xs] (λys=>ys=xs):=by
 intro S inv ok step s0 Eu y1 y2 F' h0 hok hy;rw[fM,fM,dX];refine aH U6 afK λB w0=>?_;refine go ?_;refine aW (λy:Nat×S=>xs.length - y.1) (λy=>[(7,.int .i64 (y.1:Int))]) (λy=>inv y.2) (λ_=>[]) (λy=>y.1<=xs.length/\ok (xs.take y.1) y.2/\lX step y.2 (xs.drop y.1)=lX step s0 xs) (0,s0) ⟨bQ _,h0,rfl⟩ (body:=?_);rintro⟨k,s⟩ ⟨hk,hos,hrun⟩;dsimp only at hk hos hrun⊢;refine go ?_;refine az rfl (λh1=>?_) (λh1=>?_)
 ·refine go ?_;intro _ _ x hx;have hd:xs.drop k=x::xs.drop (k+1):=by
   exact tc
  have hX:xs.take k++x::xs.drop (k+1)=xs:=by rw[<- hd,uU]
  have Ar:=hy _ s _ _ hos hX;rw[hd,lX]at hrun;refine go ?_;refine ax Ar (next:=λ_ _=>?_);cases hst:(step s x).2 with
  |true=>
   have hs1:step s x=((step s x).1,true):=Prod.ext rfl hst;rw[hs1]at hrun;refine go ?_;refine aM (k+1,(step s x).1) B0 ⟨by show k+1<=_;omega,?_,hrun⟩;exact tD
  |false=>
   exact kx
 have hke:k=xs.length:=vj
 subst hke;rw[ajs]at hrun;refine go ?_;exact ah xs (hv:=rfl) (hp:=rfl) (hk:=B6)
abbrev E5(P:Program)(fn:Fn)(first cap:List Value)(F:List aK)(p:List Int->Bool)(x:List Int):Prop:=
 ∀v:Value,aU P fn (first++[v]) cap [] (ai ae v x::F) (λ_:Unit=>.bool (p x)) (λ_=>[]) (λ_=>[]) (λ_=>True)
variable{va:Value}{fn:Fn}{first cap:List Value}{F1:List aK}{p:List Int->Bool}
theorem afN{xs:List (List Int)}(hl:xs.length<9223372036854775808)(hp:∀x∈xs,E5 Tryz.prog fn first cap F1 p x):
 aU Tryz.prog (.func 71) [va,.func fn ⟨first⟩ ⟨cap⟩] [] [ap (ak ae) va xs] F1 (λr:Int=>.int .i64 r) (λ_=>[ap (ak ae) va xs]) (λ_=>[]) (λr=>(0<=r↔xs.any p=true)):=by
 refine aH NN U7 λB w0=>?_;refine pV (E:=ak ae) (v:=va) (xs:=xs) λa hv=>?_;subst hv;refine go ?_;refine aW (λk=>xs.length - k) (λk:Nat=>[(8,.int .i64 (k:Int))]) (λ_=>[]) (λ_=>[]) (λk=>k<=xs.length/\(xs.take k).any p=false) 0 ⟨vj,vm⟩ (body:=?_);rintro k ⟨hk,hno⟩;refine go ?_;refine az rfl (λh1=>?_) (λh1=>?_)
 ·have hx:xs[k]? =some (xs[k]'(vj)):=bW _;generalize xs[k]'(vj)=x at hx;refine go ?_;refine Io ae (v:=.slice a xs.length xs.length) (xss:=xs) k x hx (next:=λb o u=>?_);refine go ?_;refine ax (hp x (aP hx) u) (next:=λ_ _=>?_);refine go ?_;refine jh rfl (λh2=>?_) (λh2=>?_)
  ·refine go ?_;exact ah (k:Int) (hv:=rfl) (hp:=⟨λ_=>List.any_eq_true.2 ⟨x,aP hx,h2⟩,λ_=>by omega⟩)
  ·refine go ?_;refine aM (k+1) vj ⟨vj,?_⟩;rw[bU hx,ajJ,hno];simp[h2]
 refine go ?_;have:k=xs.length:=vj
 subst this;rw[bJ]at hno;exact ah (-1) (hv:=rfl) (hp:=⟨λh=>by omega,λh=>by rw[hno]at h;cases h⟩)
theorem afO{xs:List (List Int)}(hl:xs.length<9223372036854775808)(hp:∀x∈xs,E5 Tryz.prog fn first cap F1 p x):
 aU Tryz.prog (.func 296) [va,.func fn ⟨first⟩ ⟨cap⟩] [] [ap (ak ae) va xs] F1 (λ_:Unit=>.bool (xs.any p)) (λ_=>[ap (ak ae) va xs]) (λ_=>[]) (λ_=>True):=by
 refine aH _ (aN 296) λB w0=>?_;refine go ?_;refine ax (afN hl hp) (next:=λr hr=>?_);refine go ?_;refine ah () (hv:=?_) (hp:=trivial);have:xs.any p=decide (0<=r):=by rw[uQ,jX];exact hr.symm
 rw[this];rfl
theorem afP{vx:Value}{zs:List Int}(hl:zs.length<9223372036854775808)(ys:List Int):E5 Tryz.prog (.func 297) [] [ptr' b] [fA b 0 [vx],ai ae vx zs] (λy=>decide (zs=y)) ys:=by
 intro v;rw[dX];refine aH _ (aN 297) λB w0=>?_;refine go ?_;refine ax (uH (xs:=zs) (ys:=ys) hl) (next:=λ_ _=>?_);refine go ?_;exact ah () (hv:=rfl) (hp:=trivial)
def yV(g:bz)(r:mH):Prop:=(eD g/\vN g r.lists)/\(r.lists.map bM).Nodup
variable{gh gc:Value}{g:bz}
theorem afQ(hS:mM d)(hG:qC g):
 aU Tryz.prog (.func 253) [.agg ⟨gu d vh vs vr vc vu⟩,.agg ⟨iH g gh gc⟩] [] [] (ai eZ vr d.regions::jk g gh gc) (λe:Int=>.int .i64 e) (λ_=>[]) (λ_=>[]) (λe=>e=0↔∀r∈d.regions,yV g r):=by
 have hrl:=hS.regs;refine aH _ (aN 253) λB w0=>?_;refine aT (E:=eZ) (v:=vr) (xs:=d.regions) vm λar cr er=>?_;subst er;refine go ?_;intro b2 b3;refine bi (dR (b:=b2)) (h:=?_);refine bi (dR (b:=b3)) (h:=?_);refine go ?_;refine aW (λk:Nat=>d.regions.length - k) (λk=>[(16,.int .i64 (k:Int))]) (λ_=>[]) (λ_=>[]) (λk=>k<=d.regions.length/\∀r∈d.regions.take k,yV g r) 0 ⟨bQ _,vm⟩ (body:=?_);rintro k ⟨hk,hall⟩;refine go ?_;refine az rfl (λh1=>?_) (λh1=>?_)
 ·refine go ?_;refine bq eZ (xs:=d.regions) (next:=λ_ _ r (vl:Value) hr=>?_);have hrm:=aP hr;obtain⟨hl1,hl2⟩:=hS.vU r hrm;refine go ?_;intro b6;refine go ?_;refine ax (UY (g:=g) (vh:=gh) (vc:=gc) (vr:=vl) (rs:=r.lists) hG hl1 hl2) (next:=λy hy=>?_);obtain⟨v7,e⟩:=y;dsimp only at hy⊢;refine go ?_;refine az rfl (λh2=>?_) (λh2=>?_)
  ·refine go ?_;exact ah e (hv:=rfl) (hp:=⟨(λh=>absurd h h2),λh=>absurd (hy.2 (h r hrm).1) h2⟩)
  have he:e=0:=gT.1 h2;obtain⟨hg,hro⟩:=hy.1 he;have hgl:=hg.len;have hrl2:=hro.len;refine aT (E:=ak ae) (v:=vl) (xs:=r.lists) vm λal cl el=>?_;subst el;refine go ?_;refine gH (ak ae) ?_;refine aW (λy:Nat×Value=>r.lists.length - y.1) (λy=>[(33,.int .i64 (y.1:Int)),(9,y.2)]) (λy=>[ap (ak ae) y.2 ((r.lists.take y.1).map bM)]) (λ_=>[]) (λy=>y.1<=r.lists.length/\((r.lists.take y.1).map bM).Nodup) (0,.slice none 0 0) ⟨bQ _,vm⟩ (hk:=we) (body:=?_);rintro⟨j,v9⟩ ⟨hj,hnd⟩;dsimp only at hj hnd⊢;have hjl:((r.lists.take j).map bM).length=j:=by rw[cz,ig];omega
  refine go ?_;refine az rfl (λh3=>?_) (λh3=>?_)
  ·refine go ?_;refine bq (ak ae) (xs:=r.lists) (next:=λ_ _ ps (vp:Value) hps=>?_);have hpm:=aP hps;have hP:=hro.all ps hpm;have hpl:ps.length<=256:=by have:=IJ hP.mem hP.nd;omega
   refine go ?_;refine ax (afL (v:=vp) (xs:=ps)) (next:=λbv _=>?_);refine go ?_;refine ax (UX (afM (b:=bv) (v:=vp) (xs:=ps) vj) (λys h=>by rw[h];omega)) (next:=λy hy2=>?_);obtain⟨v39,zs⟩:=y;dsimp only[List.cons_append,List.nil_append]at hy2⊢;subst hy2;have hzl:=yI zs;refine bi (fQ (E:=ae) (v:=v39) (xs:=bM zs)) (h:=?_);refine aT (E:=ae) (v:=v39) (xs:=bM zs) vm λa39 NP e39=>?_;subst e39;refine go ?_;intro b12;refine bi (dR (b:=b12)) (h:=?_);refine go ?_;refine ax (afO (fn:=.func 297) (first:=[]) (cap:=[ptr' b12]) (F1:=[fA b12 0 [.slice a39 (bM zs).length NP],ai ae (.slice a39 (bM zs).length NP) (bM zs)]) (p:=λy=>decide (bM zs=y)) (va:=v9) (xs:=(r.lists.take j).map bM) vj (λx _=>afP vj x)) (next:=λ_ _=>?_);have htk:(r.lists.take (j+1)).map bM=(r.lists.take j).map bM++[bM zs]:=by rw[bU hps,fD,r9]
   refine go ?_;refine jh rfl (λh4=>?_) (λh4=>?_)
   ·refine go ?_;refine ah 161 (hv:=rfl) (hp:=⟨(λh=>by cases h),λh=>?_⟩)
    exfalso
    have h5:=(h r hrm).2;have h6:((r.lists.take (j+1)).map bM).Nodup:=h5.sublist ((FM _ _).map _);rw[htk,gX]at h6;obtain⟨x,hx,hx2⟩:=List.any_eq_true.1 h4;exact h6.2.2 x hx _ (bK.2 rfl) (gQ hx2).symm
   ·refine go ?_;intro b45;refine go ?_;refine fw (xs:=(r.lists.take j).map bM) (ak ae) (bM zs) (.slice a39 (bM zs).length NP) vj (next:=λad=>?_);rw[<- htk];refine go ?_;refine aM (j+1,.slice ad (((r.lists.take j).map bM).length+1) (((r.lists.take j).map bM).length+1)) (by show r.lists.length - (j+1)<r.lists.length - j;omega) ⟨by show j+1<=_;omega,?_⟩;show((r.lists.take (j+1)).map bM).Nodup;rw[htk,gX];refine⟨hnd,vm,λa ha b hb e=>?_⟩;rw[bK.1 hb]at e;subst e;rw[List.any_eq_false]at h4;exact h4 _ ha (eY rfl)
  have gV:j=r.lists.length:=vj
  subst gV;rw[bJ]at hnd;refine go ?_;refine aM (k+1) B9 ⟨vj,?_⟩;rw[bU hr];intro x hx;rcases dW.1 hx with hx|hx
  ·exact hall x hx
  ·rw[bK.1 hx];exact⟨⟨hg,hro⟩,hnd⟩
 have hke:k=d.regions.length:=vj
 subst hke;rw[bJ]at hall;refine go ?_;exact ah 0 (hv:=rfl) (hp:=⟨λ_=>hall,λ_=>rfl⟩)
structure U8(d:bE):Prop where
 s0:0<d.symbols.length
 s1:d.symbols.length<=16
 r:d.regions.length<=4
 c:d.aJ.length<=4
 u:d.rules.length<=16
structure E8(d:bE):Prop where
 lim:U8 d
 rs:Cf d
 same:Kd.bF d=d
 NQ:1<=d.version/\d.version<=255
 Cy:om d.shape d.w d.h d.holes
 yX:∀r∈d.regions,yV (aO d) r
 form:Jm d
 read:jb d.rules=[]
structure uK(d:bE):Prop where
 s:mM d
 w:j5 d.w
 h:j5 d.h
 holes:d.holes.length<4611686018427387904
theorem E9(hm:om d.shape d.w d.h d.holes):qC (aO d):=by
 have hb:=vH hm.wi hm.he;have h1:=hm.wi;have h2:=hm.he;have h3:=hm.len;have h4:=Cg (d.w*d.h).toNat d.holes;refine⟨?_,?_,?_,?_⟩
 ·show j5 d.w;unfold j5;omega
 ·show j5 d.h;unfold j5;omega
 ·show d.holes.length<_;omega
 ·show(l5 d.w d.h d.holes).length<_;unfold l5;omega
abbrev tF(b:Nat)(d:bE)(vh vs vr vc vu:Value):List aK:=fA b 0 (gu d vh vs vr vc vu)::lZ d vh vs vr vc vu
theorem afR(hS:mM d):aU Tryz.prog (.func 247) [] [ptr' b] [] (tF b d vh vs vr vc vu) (λe:Int=>.int .i64 e) (λ_=>[]) (λ_=>[]) (λe=>e=0↔U8 d):=by
 have hsl:=hS.dJ;have hrl:=hS.regs;have hcl:=hS.jR;have vV:=hS.lQ;refine aH _ (aN 247) λB w0=>?_;refine go ?_;refine gG (λh1=>?_) (λh1=>?_)
 ·refine go ?_;refine ax (qD (b:=false) (e:=2)) (next:=λ_ _=>?_);refine go ?_;refine ah _ (hv:=rfl) (hp:=⟨λh=>?_,λh=>?_⟩)
  ·cases h
  ·exact absurd h.s0 vj
 refine go ?_;refine gG (λh2=>?_) (λh2=>?_)
 ·refine go ?_;refine ax (qD (b:=false) (e:=2)) (next:=λ_ _=>?_);refine go ?_;refine ah _ (hv:=rfl) (hp:=⟨λh=>?_,λh=>?_⟩)
  ·cases h
  ·exact absurd h.s1 vj
 refine go ?_;refine gG (λh3=>?_) (λh3=>?_)
 ·refine go ?_;refine ax (qD (b:=false) (e:=2)) (next:=λ_ _=>?_);refine go ?_;refine ah _ (hv:=rfl) (hp:=⟨λh=>?_,λh=>?_⟩)
  ·cases h
  ·exact absurd h.r vj
 refine go ?_;refine gG (λh4=>?_) (λh4=>?_)
 ·refine go ?_;refine ax (qD (b:=false) (e:=2)) (next:=λ_ _=>?_);refine go ?_;refine ah _ (hv:=rfl) (hp:=⟨λh=>?_,λh=>?_⟩)
  ·cases h
  ·exact absurd h.c vj
 refine go ?_;by_cases h5:d.rules.length<=16
 ·rw[show decide ((d.rules.length:Int)<=16)=true from eY vj];refine ax (qD (b:=true) (e:=2)) (next:=λ_ _=>?_);refine go ?_;refine ah _ (hv:=rfl) (hp:=⟨λh=>?_,λh=>?_⟩)
  ·exact⟨vj,vj,vj,vj,h5⟩
  ·rfl
 ·rw[show decide ((d.rules.length:Int)<=16)=false from aS vj];refine ax (qD (b:=false) (e:=2)) (next:=λ_ _=>?_);refine go ?_;refine ah _ (hv:=rfl) (hp:=⟨λh=>?_,λh=>?_⟩)
  ·cases h
  ·exact absurd h.u h5
theorem mM.bF(hS:mM d):mM (Kd.bF d):=by
 refine⟨hS.dJ,hS.regs,?_,?_,?_,hS.holes,hS.vU⟩
 ·show(d.aJ.map _).length<=_;rw[cz];exact hS.jR
 ·show(d.rules.map _).length<=_;rw[cz];exact hS.lQ
 ·intro r hr;obtain⟨q,hq,rfl⟩:=eG.1 (show r∈d.rules.map _ from hr);exact hS.vT q hq
theorem afS(hS:mM d):aU Tryz.prog (.func 249) [] [ptr' b] [] (tF b d vh vs vr vc vu) (λe:Int=>.int .i64 e) (λ_=>[]) (λ_=>[]) (λe=>e=0↔Cf d/\Kd.bF d=d):=by
 refine aH _ (aN 249) λB w0=>?_;refine go ?_;refine ax (UD (d:=d) hS) (next:=λy hy=>?_);obtain⟨ok,e,v1,v2⟩:=y;dsimp only[rG,ou,Ap]at hy⊢;cases ok with
 |false=>
  obtain⟨he,hno⟩:=hy.2 rfl;dsimp only[cond];refine go ?_;intro b2;refine go ?_;refine az rfl (λh1=>?_) (λh1=>?_)
  ·refine go ?_;exact ah e (hv:=rfl) (hp:=⟨λh=>absurd h he,λh=>absurd h.1 hno⟩)
  ·exact absurd (gT.1 h1) he
 |true=>
  obtain⟨he,hres⟩:=hy.1 rfl;subst he;dsimp only[cond,List.cons_append,List.nil_append];refine go ?_;intro b2;refine go ?_;have hsy:dL Tryz.prog 128 [.agg ⟨gu (Kd.bF d) vh vs vr v1 v2⟩,.agg ⟨gu d vh vs vr vc vu⟩] [ai ae vh d.holes,ai eP vs d.symbols,ai eZ vr d.regions,ai bP v1 (Kd.bF d).aJ,ai aY v2 (Kd.bF d).rules,ai bP vc d.aJ,ai aY vu d.rules] (.bool (decide (Kd.bF d=d))):=
   (UI (x:=Kd.bF d) (y:=d) (h1:=vh) (s1:=vs) (r1:=vr) (c1:=v1) (u1:=v2) (h2:=vh) (s2:=vs) (r2:=vr) (c2:=vc) (u2:=vu) hS.bF).facts (λf hf=>by
     simp only[lZ,fM,dX,dH,Fy,or_false]at hf⊢;rcases hf with rfl|rfl|rfl|rfl|rfl|rfl|rfl|rfl|rfl|rfl
     ·exact .inl rfl
     ·exact .inr (.inl rfl)
     ·exact .inr (.inr (.inl rfl))
     ·simp
     ·simp
     ·exact .inl rfl
     ·exact .inr (.inl rfl)
     ·exact .inr (.inr (.inl rfl))
     ·simp
     ·simp)
  refine ax hsy (next:=λ_ _=>?_);refine go ?_;by_cases hr:Kd.bF d=d
  ·rw[eY hr];refine ax (qD (b:=true) (e:=170)) (next:=λ_ _=>?_);refine go ?_;exact ah 0 (hv:=rfl) (hp:=⟨λ_=>⟨hres,hr⟩,λ_=>rfl⟩)
  ·rw[aS hr];refine ax (qD (b:=false) (e:=170)) (next:=λ_ _=>?_);refine go ?_;exact ah 170 (hv:=rfl) (hp:=⟨(λh=>by cases h),λh=>absurd h.2 hr⟩)
theorem afT:aU Tryz.prog (.func 250) [] [ptr' b] [] (tF b d vh vs vr vc vu) (λe:Int=>.int .i64 e) (λ_=>[]) (λ_=>[]) (λe=>e=0↔(1<=d.version/\d.version<=255)):=by
 refine aH _ (aN 250) λB w0=>?_;refine go ?_;refine gG (λh1=>?_) (λh1=>?_)
 ·refine go ?_;refine ax (qD (b:=false) (e:=170)) (next:=λ_ _=>?_);refine go ?_;exact ah 170 (hv:=rfl) (hp:=⟨(λh=>by cases h),λh=>by exfalso;omega⟩)
 refine go ?_;by_cases h2:d.version<=255
 ·rw[eY h2];refine ax (qD (b:=true) (e:=170)) (next:=λ_ _=>?_);refine go ?_;exact ah 0 (hv:=rfl) (hp:=⟨λ_=>⟨vj,h2⟩,λ_=>rfl⟩)
 ·rw[aS h2];refine ax (qD (b:=false) (e:=170)) (next:=λ_ _=>?_);refine go ?_;exact ah 170 (hv:=rfl) (hp:=⟨(λh=>by cases h),λh=>absurd h.2 h2⟩)
variable{bg:Nat}
theorem afU(hT:uK d):aU Tryz.prog (.func 251) [] [ptr' b,ptr' bg] [pt bg (.cells ET)] (tF b d vh vs vr vc vu) (λy:ND=>.int .i64 (cond y.ok 0 130))
 (λy=>[pt bg (.cells (cond y.ok (iH (vX d.shape d.w d.h d.holes) y.vh y.vc) ET))]) (oU d.shape d.w d.h d.holes) (λy=>y.ok=true↔om d.shape d.w d.h d.holes):=by
 refine aH _ (aN 251) λB w0=>?_;refine go ?_;refine ax (NE (s:=d.shape) (w:=d.w) (h:=d.h) (holes:=d.holes) (vh:=vh) hT.w hT.h hT.holes) (next:=λy hy=>?_);obtain⟨ok,v1,v2⟩:=y;cases ok with
 |false=>
  dsimp only[mkV,oU,cond,List.nil_append]at hy⊢;refine go ?_;exact ah ⟨false,v1,v2⟩ (hv:=rfl) (hp:=hy)
 |true=>
  dsimp only[mkV,oU,cond,jk,vX,List.cons_append,List.nil_append]at hy⊢;refine go ?_;exact ah ⟨true,v1,v2⟩ (hv:=rfl) (hp:=hy) (hF:=by show Sub [ai ae v1 d.holes,ai ae v2 (l5 d.w d.h d.holes)] _;exact .cons vm (.cons vm .nil))
theorem afV(hS:mM d)(hG:qC g):aU Tryz.prog (.func 252) [] [ptr' b,ptr' bg] [] (fA bg 0 (iH g gh gc)::ai ae gh g.holes::ai ae gc g.cells::tF b d vh vs vr vc vu) (λe:Int=>.int .i64 e) (λ_=>[]) (λ_=>[]) (λe=>e=0↔∀r∈d.regions,yV g r):=by
 refine aH _ (aN 252) λB w0=>?_;refine go ?_;refine ax (afQ (d:=d) (g:=g) (gh:=gh) (gc:=gc) hS hG) (next:=λe he=>?_);refine go ?_;exact ah e (hv:=rfl) (hp:=he)
theorem afW(hS:mM d):aU Tryz.prog (.func 254) [] [ptr' b] [] (tF b d vh vs vr vc vu) (λe:Int=>.int .i64 e) (λ_=>[]) (λ_=>[]) (λe=>e=0↔Jm d):=by
 refine aH _ (aN 254) λB w0=>?_;refine go ?_;refine ax (afI (d:=d) hS) (next:=λc hc=>?_);refine go ?_;refine ax (qD (b:=c) (e:=170)) (next:=λ_ _=>?_);refine go ?_;cases c with
 |false=>exact ah 170 (hv:=rfl) (hp:=⟨(λh=>by cases h),λh=>absurd (hc.2 h) vm⟩)
 |true=>exact ah 0 (hv:=rfl) (hp:=⟨λ_=>hc.1 rfl,λ_=>rfl⟩)
theorem afX(hS:mM d):aU Tryz.prog (.func 256) [] [ptr' b] [] (tF b d vh vs vr vc vu) (λe:Int=>.int .i64 e) (λ_=>[]) (λ_=>[]) (λe=>e=0↔jb d.rules=[]):=by
 refine aH _ (aN 256) λB w0=>?_;refine go ?_;refine ax (afr (d:=d) hS.lQ) (next:=λv _=>?_);refine go ?_;by_cases h:jb d.rules=[]
 ·rw[show decide (((jb d.rules).length:Int)=0)=true from eY (by rw[h];rfl)];refine ax (qD (b:=true) (e:=171)) (next:=λ_ _=>?_);refine go ?_;exact ah 0 (hv:=rfl) (hp:=⟨λ_=>h,λ_=>rfl⟩)
 ·rw[show decide (((jb d.rules).length:Int)=0)=false from aS (λe=>h (jw.1 vj))];refine ax (qD (b:=false) (e:=171)) (next:=λ_ _=>?_);refine go ?_;exact ah 171 (hv:=rfl) (hp:=⟨(λh=>by cases h),λe=>absurd e h⟩)
theorem afY(hT:uK d):aU Tryz.prog (.func 173) [.agg ⟨gu d vh vs vr vc vu⟩] [] [] (lZ d vh vs vr vc vu) (λe:Int=>.int .i64 e) (λ_=>[]) (λ_=>[]) (λe=>e=0↔E8 d):=by
 have hS:=hT.s;refine aH _ (aN 173) λB w0=>?_;refine go ?_;intro b1 b3 b14;refine bi (dR (b:=b1)) (h:=?_);refine go ?_;refine oh ?_;refine go ?_;refine ax (afR (b:=b1) (d:=d) hS) (next:=λe he=>?_);refine go ?_;refine az rfl (λhne=>?_) (λhz=>?_)
 ·refine go ?_;exact ah e (hv:=rfl) (hp:=⟨λh=>absurd h hne,λh=>absurd (he.2 h.lim) hne⟩)
 have k1:=he.1 (gT.1 hz);clear hz he;refine go ?_;refine oh ?_;refine go ?_;refine ax (afS (b:=b1) (d:=d) hS) (next:=λe he=>?_);refine go ?_;refine az rfl (λhne=>?_) (λhz=>?_)
 ·refine go ?_;exact ah e (hv:=rfl) (hp:=⟨λh=>absurd h hne,λh=>absurd (he.2 ⟨h.rs,h.same⟩) hne⟩)
 have k2:=he.1 (gT.1 hz);clear hz he;refine go ?_;refine oh ?_;refine go ?_;refine ax (afT (b:=b1) (d:=d)) (next:=λe he=>?_);refine go ?_;refine az rfl (λhne=>?_) (λhz=>?_)
 ·refine go ?_;exact ah e (hv:=rfl) (hp:=⟨λh=>absurd h hne,λh=>absurd (he.2 h.NQ) hne⟩)
 have k3:=he.1 (gT.1 hz);clear hz he;refine go ?_;refine oh ?_;refine go ?_;refine ax (afU (b:=b1) (bg:=b3) (d:=d) hT) (next:=λy hy=>?_);obtain⟨ok,gh,gc⟩:=y;cases ok with
 |false=>
  dsimp only[cond,oU,List.cons_append,List.nil_append]at hy⊢;refine go ?_;exact ah 130 (hv:=rfl) (hp:=⟨(λh=>by cases h),λh=>absurd (hy.2 h.Cy) vm⟩)
 |true=>
 have hmk:=hy.1 rfl;have hG:=E9 hmk;dsimp only[cond,oU];rw[show vX d.shape d.w d.h d.holes=aO d from rfl];dsimp only[jk,List.cons_append,List.nil_append];refine bi (dR (b:=b3)) (h:=?_);refine go ?_;refine oh ?_;refine go ?_;refine ax (afV (b:=b1) (bg:=b3) (d:=d) (g:=aO d) (gh:=gh) (gc:=gc) hS hG) (next:=λe he=>?_);refine go ?_;refine az rfl (λhne=>?_) (λhz=>?_)
 ·refine go ?_;exact ah e (hv:=rfl) (hp:=⟨λh=>absurd h hne,λh=>absurd (he.2 h.yX) hne⟩)
 have k5:=he.1 (gT.1 hz);clear hz he;refine go ?_;refine oh ?_;refine go ?_;refine ax (afW (b:=b1) (d:=d) hS) (next:=λe he=>?_);refine go ?_;refine az rfl (λhne=>?_) (λhz=>?_)
 ·refine go ?_;exact ah e (hv:=rfl) (hp:=⟨λh=>absurd h hne,λh=>absurd (he.2 h.form) hne⟩)
 have k6:=he.1 (gT.1 hz);clear hz he;refine go ?_;refine oh ?_;refine go ?_;refine ax (afX (b:=b1) (d:=d) hS) (next:=λe he=>?_);refine go ?_;refine az rfl (λhne=>?_) (λhz=>?_)
 ·refine go ?_;exact ah e (hv:=rfl) (hp:=⟨λh=>absurd h hne,λh=>absurd (he.2 h.read) hne⟩)
 have k7:=he.1 (gT.1 hz);clear hz he;refine go ?_;refine oh ?_;refine go ?_;exact ah 0 (hv:=rfl) (hp:=⟨λ_=>⟨k1,k2.1,k2.2,k3,hmk,k5,k6,k7⟩,λ_=>rfl⟩)
