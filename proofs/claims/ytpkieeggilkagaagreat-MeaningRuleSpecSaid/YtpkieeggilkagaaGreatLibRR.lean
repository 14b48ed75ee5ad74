/-
  Part LibRR.
-/
import Derived.Test.YtpkieeggilkagaaGreatLibOR
import Derived.Test.YtpkieeggilkagaaGreatLibPR
import Derived.Test.YtpkieeggilkagaaGreatLibJR
set_option linter.all false
set_option maxRecDepth 10000
set_option maxHeartbeats 4000000
namespace Go.Proofs.YtpkieeggilkagaaGreat
open Go.Ideal Kd
abbrev zz(a b:List Int):Prop:=(∀x∈a,x∈b)/\∀x∈b,x∈a
theorem aid{va vb:Value}{xs ys:List Int}(hx:xs.length<9223372036854775808)(hy:ys.length<9223372036854775808):bV Tryz.prog 210 [va,vb] [ah aa va xs,ah aa vb ys] (.bool (decide (zz xs ys))):=by
 refine aC _ (aF 210) λB w0=>?_;refine aT (E:=aa) (v:=va) (xs:=xs) (by simp) λa1 c1 e1=>?_;subst e1;refine aT (E:=aa) (v:=vb) (xs:=ys) (by simp) λa2 c2 e2=>?_;subst e2;refine go ?_;refine aR (λk=>xs.length - k) (λk:Nat=>[(5,.int .i64 (k:Int))]) (λ_=>[]) (λ_=>[]) (λk=>k<=xs.length/\∀x∈xs.take k,x∈ys) 0 ⟨by omega,by simp⟩ (body:=?_);rintro k ⟨hk,hall⟩;refine go ?_;refine ay rfl (λh1=>?_) (λh1=>?_)
 ·refine go ?_;intro _ _ x hx;refine go ?_;refine aj (JV (xs:=ys) (z:=x) (by omega)) (next:=λ_ _=>?_);refine go ?_;refine eX rfl (λh2=>?_) (λh2=>?_)
  ·refine go ?_;refine ae () (hv:=?_) (hp:=trivial);rw[aS (λh:zz xs ys=>h2 (h.1 x (aP hx)))];rfl
  refine go ?_;refine aD (k+1) (by omega) ⟨by omega,?_⟩;rw[bS hx];intro z hz;rcases dB.1 hz with hz|hz
  ·exact hall z hz
  ·rw[bM.1 hz];exact h2
 have hkl:k=xs.length:=by omega
 subst hkl;rw[bC]at hall;have aie:=hall;clear hall hk h1;refine go ?_;refine aR (λk=>ys.length - k) (λk:Nat=>[(6,.int .i64 (k:Int))]) (λ_=>[]) (λ_=>[]) (λk=>k<=ys.length/\∀x∈ys.take k,x∈xs) 0 ⟨by omega,by simp⟩ (body:=?_);rintro k ⟨hk,hall⟩;refine go ?_;refine ay rfl (λh1=>?_) (λh1=>?_)
 ·refine go ?_;intro _ _ x hx;refine go ?_;refine aj (JV (xs:=xs) (z:=x) (by omega)) (next:=λ_ _=>?_);refine go ?_;refine eX rfl (λh2=>?_) (λh2=>?_)
  ·refine go ?_;refine ae () (hv:=?_) (hp:=trivial);rw[aS (λh:zz xs ys=>h2 (h.2 x (aP hx)))];rfl
  refine go ?_;refine aD (k+1) (by omega) ⟨by omega,?_⟩;rw[bS hx];intro z hz;rcases dB.1 hz with hz|hz
  ·exact hall z hz
  ·rw[bM.1 hz];exact h2
 have hkl:k=ys.length:=by omega
 subst hkl;rw[bC]at hall;refine go ?_;refine ae () (hv:=?_) (hp:=trivial);rw[dQ (show zz xs ys from⟨aie,hall⟩)];rfl
theorem aif{g:bD}{ps:List Int}(h:zb g ps):ps.Nodup:=by
 have:=h.nd;unfold List.Nodup at this⊢;rw[BC]at this;exact this.imp λh e=>h (by rw[e])
theorem Ww{a b:List Int}(ha:a.Nodup)(hb:b.Nodup):zz a b↔dD a=dD b:=by
 constructor
 ·rintro⟨h1,h2⟩;exact TT ((List.perm_ext_iff_of_nodup ha hb).2 λx=>⟨h1 x,h2 x⟩)
 ·intro h;exact⟨λx hx=>by rw[<- vR,<- h,vR];exact hx,λx hx=>by rw[<- vR,h,vR];exact hx⟩
theorem aih{ls:List (List Int)}(hn:∀l∈ls,l.Nodup):(ls.map dD).Nodup↔∀(i j:Nat) a b,j<i->ls[i]? =some a->ls[j]? =some b->¬zz a b:=by
 rw[List.nodup_iff_pairwise_ne,BC,zH];constructor
 ·intro h i j a b hij ha hb hk;obtain⟨hi,rfl⟩:=bK.1 ha;obtain⟨hj,rfl⟩:=bK.1 hb;exact h j i hj hi hij ((Ww (hn _ (uY hi)) (hn _ (uY hj))).1 hk).symm
 ·intro h j i hj hi hij e;exact h i j ls[i] ls[j] hij (bN hi) (bN hj) ((Ww (hn _ (uY hi)) (hn _ (uY hj))).2 e.symm)
theorem aii{d:bG}{vh vs vr vc vu gh gc:Value}{g:bD}(hS:mZ d)(hG:qM g):
 aV Tryz.prog (.func 168) [.agg ⟨gI d vh vs vr vc vu⟩,.agg ⟨iW g gh gc⟩] [] [] (ah fA vr d.regions::jD g gh gc) (λe:Int=>.int .i64 e) (λ_=>[]) (λ_=>[]) (λe=>e=0↔∀r∈d.regions,zo g r):=by
 have hrl:=hS.regs;have hre:=hS.vZ;refine aC _ (aF 168) λB w0=>?_;refine aT (E:=fA) (v:=vr) (xs:=d.regions) (by simp) λa1 c1 e1=>?_;subst e1;refine go ?_;intro b2 b3;refine aW (eB (b:=b2)) (h:=?_);refine aW (eB (b:=b3)) (h:=?_);refine go ?_;refine aR (λk=>d.regions.length - k) (λk:Nat=>[(5,.int .i64 (k:Int))]) (λ_=>[]) (λ_=>[]) (λk=>k<=d.regions.length/\∀r∈d.regions.take k,zo g r) 0 ⟨by omega,by simp⟩ (body:=?_);rintro k ⟨hk,hall⟩;refine go ?_;refine ay rfl (λh1=>?_) (λh1=>?_)
 ·refine go ?_;refine aU fA (xs:=d.regions) (next:=λ_ _ r (vl:Value) hr=>?_);have hrm:=aP hr;have hrx:=hre r hrm;generalize hls:r.lists=ls at hrx;refine aT (E:=ax aa) (v:=vl) (xs:=ls) (by simp) λal cl el=>?_;subst el;refine go ?_;refine aj (We (g:=g) (vh:=gh) (vc:=gc) (vr:=.slice al ls.length cl) (rs:=ls) hG hrx.1 hrx.2) (next:=λy hy=>?_);obtain⟨v7,e⟩:=y;dsimp only at hy⊢;refine go ?_;refine ay rfl (λh2=>?_) (λh2=>?_)
  ·refine go ?_;exact ae e (hv:=rfl) (hp:=⟨λh=>absurd h h2,λh=>by exfalso;have:=h r hrm;exact h2 (hy.2 (by rw[<- hls];exact this.1))⟩)
  have he:e=0:=gM.1 h2;obtain⟨hg,hro⟩:=hy.1 he;subst he;clear hy h2;have hnd:∀l∈ls,l.Nodup:=λl hl=>aif (hro.all l hl);have Wx:=aih hnd;refine go ?_;refine aR (λi=>ls.length - i) (λi:Nat=>[(9,.int .i64 (i:Int))]) (λ_=>[]) (λ_=>[]) (λi=>i<=ls.length/\∀(i' j:Nat) a b,i'<i->j<i'->ls[i']? =some a->ls[j]? =some b->¬zz a b) 0 ⟨by omega,λi' j a b h=>by omega⟩ (body:=?_);rintro i ⟨hi,hin⟩;refine go ?_;refine ay rfl (λh3=>?_) (λh3=>?_)
  ·obtain⟨a,ha⟩:∃a,ls[i]? =some a:=⟨ls[i]'(by omega),bN _⟩
   have hal:=hrx.2 a (aP ha);refine go ?_;refine aR (λj=>i - j) (λj:Nat=>[(10,.int .i64 (j:Int))]) (λ_=>[]) (λ_=>[]) (λj=>j<=i/\∀(j':Nat) b,j'<j->ls[j']? =some b->¬zz a b) 0 ⟨by omega,λj' b h=>by omega⟩ (body:=?_);rintro j ⟨hj,hjn⟩;refine go ?_;refine ay rfl (λh4=>?_) (λh4=>?_)
   ·refine go ?_;refine aU (ax aa) (xs:=ls) (next:=λ_ _ a' (_:Value) ha'=>?_);cases ha.symm.trans ha';refine go ?_;refine aU (ax aa) (xs:=ls) (next:=λ_ _ b (_:Value) hb=>?_);have hbl:=hrx.2 b (aP hb);refine go ?_;refine aj (aid (xs:=a) (ys:=b) hal hbl) (next:=λ_ _=>?_);refine go ?_;refine ay rfl (λh5=>?_) (λh5=>?_)
    ·refine go ?_;exact ae 161 (hv:=rfl) (hp:=⟨(λh=>by cases h),λh=>by
      exfalso
      have h6:=(h r hrm).2;rw[hls]at h6;exact Wx.1 h6 i j a b (by omega) ha hb h5⟩)
    refine go ?_;refine aD (j+1) (by omega) ⟨by omega,λj' b' hj' hb'=>?_⟩;by_cases e:j'=j
    ·subst e;rw[hb]at hb';cases hb';exact h5
    ·exact hjn j' b' (by omega) hb'
   have hji:j=i:=by omega
   subst hji;refine go ?_;refine aD (j+1) (by omega) ⟨by omega,λi' j' a' b' hi' hj' ha' hb'=>?_⟩;by_cases e:i'=j
   ·subst e;rw[ha]at ha';cases ha';exact hjn j' b' hj' hb'
   ·exact hin i' j' a' b' (by omega) hj' ha' hb'
  have hil:i=ls.length:=by omega
  subst hil;have hR:zo g r:=⟨⟨hg,by rw[hls];exact hro⟩,by rw[hls];exact Wx.2 λi j a b hij ha hb=>hin i j a b (bK.1 ha).1 hij ha hb⟩
  refine go ?_;refine aD (k+1) (by omega) ⟨by omega,?_⟩;rw[bS hr];intro z hz;rcases dB.1 hz with hz|hz
  ·exact hall z hz
  ·rw[bM.1 hz];exact hR
 have hkl:k=d.regions.length:=by omega
 subst hkl;rw[bC]at hall;refine go ?_;exact ae 0 (hv:=rfl) (hp:=⟨λ_=>hall,λ_=>rfl⟩)
theorem aij{c:jo}:bV Tryz.prog 212 [.agg ⟨FM c⟩] [] (.bool (decide (ou c))):=by
 refine aC _ (aF 212) λB w0=>?_;refine go ?_;intro b1;iterate 13 (all_goals (first
  |(refine ae () (hv:=?_) (hp:=trivial);first
   |exact congrArg Value.bool (l6.2 (by unfold ou;omega))
   |exact congrArg Value.bool (aS (by unfold ou;omega)).symm
   |exact congrArg Value.bool (dQ (by unfold ou;omega)).symm)
  |(refine go ?_;first
   |with_reducible refine lV (λ_=>?_) (λ_=>?_)
   |with_reducible refine kV (λ_=>?_) (λ_=>?_)
   |refine ay rfl (λ_=>?_) (λ_=>?_)
   |skip)))
theorem aik{r:bB}{v1 v2:Value}:bV Tryz.prog 213 [.agg ⟨gY r v1 v2⟩] [] (.bool (decide (1<=r.kind/\r.kind<=11))):=by
 refine aC _ (aF 213) λB w0=>?_;refine go ?_;intro b1;refine go ?_;refine gG (λh1=>?_) (λh1=>?_)
 ·refine go ?_;refine ae () (hv:=?_) (hp:=trivial);rw[aS (λh=>h1 (by omega))];rfl
 refine go ?_;refine ae () (hv:=?_) (hp:=trivial);exact congrArg Value.bool (l6.2 (by omega))
theorem ail(k:Int):(fF k).read=decide (1<=k/\k<=11):=by
 by_cases h:0<=k/\k<14
 ·have hc:k=0\/k=1\/k=2\/k=3\/k=4\/k=5\/k=6\/k=7\/k=8\/k=9\/k=10\/k=11\/k=12\/k=13:=by omega
  rcases hc with rfl|rfl|rfl|rfl|rfl|rfl|rfl|rfl|rfl|rfl|rfl|rfl|rfl|rfl<;>rfl
 ·rw[Df (by omega),aS (by omega)]
theorem aim{d:bG}{vh vs vr vc vu:Value}(hl:d.rules.length<=4096):aV Tryz.prog (.func 170) [.agg ⟨gI d vh vs vr vc vu⟩] [] [] [ah aZ vu d.rules] (λa:Option Addr=>.slice a (jl d.rules).length (jl d.rules).length) (λ_=>[]) (λ_=>[]) (λ_=>True):=by
 refine aC _ (aF 170) λB w0=>?_;refine aT (E:=aZ) (v:=vu) (xs:=d.rules) (by simp) λa1 c1 e1=>?_;subst e1;refine go ?_;intro b1;refine aW (eB (b:=b1)) (h:=?_);refine go ?_;refine fJ aa ?_;refine aR (λy:Nat×Value=>d.rules.length - y.1) (λy=>[(4,.int .i64 (y.1:Int)),(3,y.2)]) (λy=>[ap aa y.2 (jl (d.rules.take y.1))]) (λ_=>[]) (λy=>y.1<=d.rules.length/\(jl (d.rules.take y.1)).length<=y.1) (0,.slice none 0 0) ⟨bJ _,bU _⟩ (hk:=by repeat (first|exact aJ.nil|(apply aJ.cons;(focus (repeat (first|exact aA.here|apply aA.there)))))) (body:=?_);rintro⟨k,v3⟩ ⟨hk,hkl⟩;dsimp only at hk hkl⊢;refine go ?_;refine ay rfl (λh1=>?_) (λh1=>?_)
 ·refine go ?_;refine aU aZ (xs:=d.rules) (next:=λ_ _ x (vx:Value×Value) hx=>?_);have Bp:=VJ hx;rw[ail]at Bp;refine go ?_;refine aj (aik (r:=x) (v1:=vx.1) (v2:=vx.2)) (next:=λ_ _=>?_);refine go ?_;refine eX rfl (λh2=>?_) (λh2=>?_)
  ·rw[if_neg (by rw[aS h2];simp)]at Bp;refine go ?_;intro b21;refine go ?_;refine eG aa (xs:=jl (d.rules.take k)) (k:Int) () (by omega) (next:=λad=>?_);rw[<- Bp];refine go ?_;refine aD (k+1,.slice ad ((jl (d.rules.take k)).length+1) ((jl (d.rules.take k)).length+1)) (by show d.rules.length - (k+1)<d.rules.length - k;omega) ⟨by show k+1<=_;omega,?_⟩;show(jl (d.rules.take (k+1))).length<=k+1;rw[Bp,gU,uh];omega
  ·rw[if_pos (dQ h2),gV]at Bp;rw[<- Bp];refine go ?_;refine aD (k+1,v3) (by show d.rules.length - (k+1)<d.rules.length - k;omega) ⟨by show k+1<=_;omega,?_⟩;show(jl (d.rules.take (k+1))).length<=k+1;rw[Bp];omega
 have hke:k=d.rules.length:=by omega
 subst hke;rw[bC];refine qi (E:=aa) (v:=v3) (xs:=jl d.rules) λa3 e3=>?_;subst e3;refine go ?_;exact ae a3 (hv:=rfl) (hp:=trivial)
def J4(cs:List jo)(r:bB)(kind:Int)(on:Bool):Prop:=0<=r.aB/\r.aB<cs.length/\∃c,cs[r.aB.toNat]? =some c/\c.type=kind/\(on=false\/c.family=r.family)
theorem qQ{d:bG}{r:bB}{kind:Int}{on:Bool}{vh vs vr vc vu v1 v2:Value}(hcl:d.aM.length<=4096):
 aV Tryz.prog (.func 259) [.agg ⟨gI d vh vs vr vc vu⟩,.agg ⟨gY r v1 v2⟩,.int .i64 kind,.bool on] [] [] [ah bI vc d.aM] (λb:Bool=>.bool b) (λ_=>[]) (λ_=>[]) (λb=>b=true↔J4 d.aM r kind on):=by
 refine aC _ (aF 259) λB w0=>?_;refine aT (E:=bI) (v:=vc) (xs:=d.aM) (by simp) λa1 c1 e1=>?_;subst e1;refine go ?_;intro b4 b5;refine go ?_;refine gG (λh1=>?_) (λh1=>?_)
 rotate_left
 ·refine go ?_;exact ae false (hv:=rfl) (hp:=⟨(λh=>by cases h),λh=>by exfalso;have:=h.1;omega⟩)
 refine go ?_;refine ay rfl (λh2=>?_) (λh2=>?_)
 ·refine go ?_;exact ae false (hv:=rfl) (hp:=⟨(λh=>by cases h),λh=>by exfalso;have:=h.2.1;omega⟩)
 obtain⟨k,hk⟩:=dZ (show 0<=r.aB by omega);refine go ?_;rw[hk];refine aU bI (xs:=d.aM) (next:=λ_ _ c (_:Unit) hc=>?_);have hc':d.aM[r.aB.toNat]? =some c:=by rw[hk];exact hc
 have Wy:∀c',d.aM[r.aB.toNat]? =some c'->c'=c:=λc' h=>by rw[hc']at h;exact(Option.some.inj h).symm
 refine go ?_;intro b9;refine go ?_;refine gG (λh3=>?_) (λh3=>?_)
 ·refine go ?_;exact ae false (hv:=rfl) (hp:=⟨(λh=>by cases h),λh=>by
   exfalso
   obtain⟨_,_,c',p1,p2,_⟩:=h;rw[Wy c' p1]at p2;exact h3 p2⟩)
 cases on with
 |false=>
  refine go ?_;exact ae true (hv:=rfl) (hp:=⟨λ_=>⟨by omega,by omega,c,hc',h3,.inl rfl⟩,λ_=>rfl⟩)
 |true=>
  refine go ?_;refine ae (decide (c.family=r.family)) (hv:=rfl) (hp:=⟨λh=>⟨by omega,by omega,c,hc',h3,.inr (iw h)⟩,λh=>?_⟩);obtain⟨_,_,c',p1,p2,p3⟩:=h;rw[Wy c' p1]at p3;exact dQ (p3.resolve_left (by simp))
def Wz(cs:List jo)(r:bB):Prop:=(1<=r.op/\r.op<=3)/\((r.dn=ow/\(0<=r.n/\r.n<=65536)/\r.aB= -1)\/(r.dn≠ow/\r.n=0/\J4 cs r 2 true))
theorem r9{d:bG}{r:bB}{vh vs vr vc vu v1 v2:Value}(hcl:d.aM.length<=4096):
 aV Tryz.prog (.func 258) [.agg ⟨gI d vh vs vr vc vu⟩,.agg ⟨gY r v1 v2⟩] [] [] [ah bI vc d.aM] (λb:Bool=>.bool b) (λ_=>[]) (λ_=>[]) (λb=>b=true↔Wz d.aM r):=by
 refine aC _ (aF 258) λB w0=>?_;refine go ?_;intro b2 b3;refine go ?_;refine gG (λh1=>?_) (λh1=>?_)
 rotate_left
 ·refine go ?_;exact ae false (hv:=rfl) (hp:=⟨(λh=>by cases h),λh=>by exfalso;have:=h.1;omega⟩)
 refine go ?_;refine ay rfl (λh2=>?_) (λh2=>?_)
 ·refine go ?_;exact ae false (hv:=rfl) (hp:=⟨(λh=>by cases h),λh=>by exfalso;have:=h.1;omega⟩)
 refine go ?_;refine iZ rfl (λh3=>?_) (λh3=>?_)
 ·rw[eO]at h3;have h3:r.dn=ow:=iw h3;refine go ?_;refine gG (λh4=>?_) (λh4=>?_)
  ·refine go ?_;exact ae false (hv:=rfl) (hp:=⟨(λh=>by cases h),λh=>by
    exfalso
    rcases h.2 with⟨_,q,_⟩|⟨q,_⟩
    ·omega
    ·exact q h3⟩)
  refine go ?_;refine gG (λh5=>?_) (λh5=>?_)
  ·refine go ?_;exact ae false (hv:=rfl) (hp:=⟨(λh=>by cases h),λh=>by
    exfalso
    rcases h.2 with⟨_,q,_⟩|⟨q,_⟩
    ·omega
    ·exact q h3⟩)
  refine go ?_;exact ae (decide (r.aB= -1)) (hv:=rfl) (hp:=⟨λh=>⟨⟨by omega,by omega⟩,.inl ⟨h3,⟨by omega,by omega⟩,iw h⟩⟩,λh=>by
   rcases h.2 with⟨_,_,q⟩|⟨q,_⟩
   ·exact dQ q
   ·exact absurd h3 q⟩)
 ·rw[eO]at h3;have h3:¬r.dn=ow:=mK h3;refine go ?_;refine gG (λh4=>?_) (λh4=>?_)
  ·refine go ?_;exact ae false (hv:=rfl) (hp:=⟨(λh=>by cases h),λh=>by
    exfalso
    rcases h.2 with⟨q,_⟩|⟨_,q,_⟩
    ·exact h3 q
    ·exact h4 q⟩)
  refine go ?_;refine aj (qQ (d:=d) (r:=r) (kind:=2) (on:=true) (v1:=v1) (v2:=v2) hcl) (next:=λb hb=>?_);refine go ?_;exact ae b (hv:=rfl) (hp:=⟨λh=>⟨⟨by omega,by omega⟩,.inr ⟨h3,h4,hb.1 h⟩⟩,λh=>by
   rcases h.2 with⟨q,_⟩|⟨_,_,q⟩
   ·exact absurd q h3
   ·exact hb.2 q⟩)
noncomputable def qj:=wK Tryz.prog 211
theorem qR:nV Tryz.prog 211=some qj:=by kernel_rfl
abbrev jL(d:bG)(r:bB)(vh vs vr vc vu v1 v2:Value):Prop:=aV Tryz.prog (.func 211) [.agg ⟨gI d vh vs vr vc vu⟩,.agg ⟨gY r v1 v2⟩] [] [] [ah bI vc d.aM,ah bF v1 r.names,ah bF v2 r.others] (λb:Bool=>.bool b) (λ_=>[]) (λ_=>[]) (λb=>b=true↔uS (fF r.kind) d.aM r)
structure WA(x:A9)(r:bB):Prop where
 on:(x.on=true↔r.on≠ow)
 lX:x.on=true\/r.family=0
 set:(x.set=true↔r.set≠0)
 names:x.set=true\/r.names=[]
 other:(x.other=true↔r.other≠0)
 others:x.other=true\/r.others=[]
structure aio(x:A9)(r:bB):Prop where
 op:r.op=0
 n:x.free=true\/r.n=0
 dn:x.aB≠0\/(r.dn=ow/\r.aB= -1)
theorem x9{x:A9}{cs:List jo}{r:bB}(hk:x.known=true)(ho:x.op=true)(hf:x.free=false)(hc:x.aB=0):uS x cs r↔WA x r/\Wz cs r:=by
 constructor
 ·rintro⟨q1,q2,q3,q4,q5,q6,q7,q8,q9,Ba,Bb,kK⟩;refine⟨⟨q2,q5,q3,q6,q4,q7⟩,q8.1 ho,?_⟩;by_cases hb:r.dn=ow
  ·left;rcases kK 0 (by rw[if_neg (λh=>h.2 hb),hc])with⟨_,_,w⟩|⟨w,_⟩
   ·exact⟨hb,Ba,w⟩
   ·exact absurd rfl w
  ·right;rcases kK 2 (by rw[if_pos ⟨ho,hb⟩])with⟨w,_⟩|⟨_,w1,w2,c,w3,w4,w5⟩
   ·cases w
   ·refine⟨hb,?_,w1,w2,c,w3,w4,.inr (w5.resolve_left (by omega))⟩;rcases Bb with h|⟨_,h⟩|h
    ·rw[hf]at h;cases h
    ·exact absurd h hb
    ·exact h
 ·rintro⟨⟨q2,q5,q3,q6,q4,q7⟩,p1,p2⟩;refine⟨hk,q2,q3,q4,q5,q6,q7,⟨λ_=>p1,λ_=>ho⟩,.inl ho,?_,?_,λneed hn=>?_⟩
  ·rcases p2 with⟨_,h,_⟩|⟨_,h,_⟩
   ·exact h
   ·omega
  ·rcases p2 with⟨h,_,_⟩|⟨_,h,_⟩
   ·exact .inr (.inl ⟨ho,h⟩)
   ·exact .inr (.inr h)
  ·rcases p2 with⟨h,_,h2⟩|⟨h,_,w1,w2,c,w3,w4,w5⟩
   ·rw[if_neg (λq=>q.2 h),hc]at hn;exact .inl ⟨hn,h,h2⟩
   ·rw[if_pos ⟨ho,h⟩]at hn;exact .inr ⟨by omega,w1,w2,c,w3,by rw[hn];exact w4,.inr (w5.resolve_left (by simp))⟩
theorem jE{x:A9}{cs:List jo}{r:bB}(hk:x.known=true)(ho:x.op=false)(hc:x.aB=0\/x.aB=1\/x.aB=3):uS x cs r↔WA x r/\aio x r/\(0<=r.n/\r.n<=65536)/\(x.aB=3->J4 cs r 3 true)/\(x.aB=1->J4 cs r 1 false):=by
 have hne:∀a b:Int,(if x.op=true/\r.dn≠ow then a else b)=b:=λa b=>if_neg (λh=>by rw[ho]at h;cases h.1);constructor
 ·rintro⟨q1,q2,q3,q4,q5,q6,q7,q8,q9,Ba,Bb,kK⟩;have hop:r.op=0:=by rcases q9 with h|h;rw[ho]at h;cases h;exact h
  have kK:=kK x.aB (hne _ _).symm;refine⟨⟨q2,q5,q3,q6,q4,q7⟩,⟨hop,?_,?_⟩,Ba,λh=>?_,λh=>?_⟩
  ·rcases Bb with h|⟨h,_⟩|h
   ·exact .inl h
   ·rw[ho]at h;cases h
   ·exact .inr h
  ·rcases kK with⟨_,w⟩|⟨w,_⟩
   ·exact .inr w
   ·exact .inl w
  ·rcases kK with⟨w,_⟩|⟨_,w1,w2,c,w3,w4,w5⟩
   ·omega
   ·exact⟨w1,w2,c,w3,by omega,.inr (w5.resolve_left (by omega))⟩
  ·rcases kK with⟨w,_⟩|⟨_,w1,w2,c,w3,w4,w5⟩
   ·omega
   ·exact⟨w1,w2,c,w3,by omega,.inl rfl⟩
 ·rintro⟨⟨q2,q5,q3,q6,q4,q7⟩,⟨p1,p2,p3⟩,p4,p5,p6⟩;refine⟨hk,q2,q3,q4,q5,q6,q7,⟨(λh=>by rw[ho]at h;cases h),(λh=>by omega)⟩,.inr p1,p4,?_,λneed hn=>?_⟩
  ·rcases p2 with h|h
   ·exact .inl h
   ·exact .inr (.inr h)
  ·rw[hne]at hn;subst hn;rcases hc with h|h|h
   ·exact .inl ⟨h,p3.resolve_left (by omega)⟩
   ·obtain⟨w1,w2,c,w3,w4,w5⟩:=p6 h;exact .inr ⟨by omega,w1,w2,c,w3,by omega,.inl h⟩
   ·obtain⟨w1,w2,c,w3,w4,w5⟩:=p5 h;exact .inr ⟨by omega,w1,w2,c,w3,by omega,.inr (w5.resolve_left (by simp))⟩
theorem aip{d:bG}{r:bB}{vh vs vr vc vu v1 v2:Value}(hk:r.kind=1)(hcl:d.aM.length<=4096)(h1:r.names.length<9223372036854775808)(h2:r.others.length<9223372036854775808):jL d r vh vs vr vc vu v1 v2:=by
 obtain⟨rn,iG,rk,rf,dz,dA,rs,iH,iI,iJ,iK,iL⟩:=r;dsimp only at hk h1 h2;subst hk;dsimp only[jL];rw[show fF 1=⟨true,false,false,false,false,true,true,0⟩from by rfl];refine aC qj qR λB w0=>?_;refine aT (E:=bF) (v:=v1) (xs:=dz) (by simp) λa1 c1 e1=>?_;subst e1;refine aT (E:=bF) (v:=v2) (xs:=dA) (by simp) λa2 c2 e2=>?_;subst e2;refine go ?_;intro b2 b3;iterate 16 (all_goals (first
  |(refine aj (r9 (d:=d) (r:=⟨rn,iG,1,rf,dz,dA,rs,iH,iI,iJ,iK,iL⟩) (v1:=.slice a1 dz.length c1) (v2:=.slice a2 dA.length c2) hcl) (next:=λbb hbb=>?_))
  |(refine aj (qQ (d:=d) (r:=⟨rn,iG,1,rf,dz,dA,rs,iH,iI,iJ,iK,iL⟩) (v1:=.slice a1 dz.length c1) (v2:=.slice a2 dA.length c2) hcl) (next:=λbb hbb=>?_))
  |(refine go ?_;first
   |with_reducible refine lV (λ_=>?_) (λ_=>?_)
   |with_reducible refine kV (λ_=>?_) (λ_=>?_)
   |with_reducible refine lD (λ_=>?_) (λ_=>?_)
   |refine ay rfl (λ_=>?_) (λ_=>?_)
   |refine eX rfl (λ_=>?_) (λ_=>?_)
   |refine iZ rfl (λ_=>?_) (λ_=>?_)
   |skip)))
 all_goals (try simp only[eO]at *)
 all_goals (first
  |(refine ae false (hv:=by rfl) (hp:=⟨(λh=>by cases h),λh=>?_⟩)
    exfalso
    rw[jE rfl rfl (by decide)]at h;obtain⟨⟨q1,q2,q3,q4,q5,q6⟩,h7⟩:=h;dsimp only at q1 q2 q3 q4 q5 q6 h7;first
     |(simp_all;done)
     |(obtain⟨⟨p1,p2,p3⟩,p4,p5,p6⟩:=h7;dsimp only at p1 p2 p3 p4 p5 p6;first|(simp_all;done)|(simp_all;omega)|omega))
  |(refine ae true (hv:=by rfl) (hp:=⟨λ_=>?_,λ_=>rfl⟩)
    rw[jE rfl rfl (by decide)];first
     |(refine⟨⟨?_,?_,?_,?_,?_,?_⟩,⟨?_,?_,?_⟩,?_,?_,?_⟩<;>dsimp only<;>first|(simp_all;done)|(simp_all;omega)|omega)
     |(refine⟨⟨?_,?_,?_,?_,?_,?_⟩,?_⟩<;>first|(simp_all;done)|(simp_all;omega)))
  |(refine ae bb (hv:=by rfl) (hp:=?_)
    rw[jE rfl rfl (by decide)];constructor
    ·intro hb;refine⟨⟨?_,?_,?_,?_,?_,?_⟩,⟨?_,?_,?_⟩,?_,?_,?_⟩<;>dsimp only<;>first|(simp_all;done)|(simp_all;omega)|omega
    ·rintro⟨⟨q1,q2,q3,q4,q5,q6⟩,⟨p1,p2,p3⟩,p4,p5,p6⟩;dsimp only at q1 q2 q3 q4 q5 q6 p1 p2 p3 p4 p5 p6
     simp_all))
theorem aiq{d:bG}{r:bB}{vh vs vr vc vu v1 v2:Value}(hk:r.kind=2)(hcl:d.aM.length<=4096)(h1:r.names.length<9223372036854775808)(h2:r.others.length<9223372036854775808):jL d r vh vs vr vc vu v1 v2:=by
 obtain⟨rn,iG,rk,rf,dz,dA,rs,iH,iI,iJ,iK,iL⟩:=r;dsimp only at hk h1 h2;subst hk;dsimp only[jL];rw[show fF 2=⟨true,true,false,true,false,true,true,0⟩from by rfl];refine aC qj qR λB w0=>?_;refine aT (E:=bF) (v:=v1) (xs:=dz) (by simp) λa1 c1 e1=>?_;subst e1;refine aT (E:=bF) (v:=v2) (xs:=dA) (by simp) λa2 c2 e2=>?_;subst e2;refine go ?_;intro b2 b3;iterate 16 (all_goals (first
  |(refine aj (r9 (d:=d) (r:=⟨rn,iG,2,rf,dz,dA,rs,iH,iI,iJ,iK,iL⟩) (v1:=.slice a1 dz.length c1) (v2:=.slice a2 dA.length c2) hcl) (next:=λbb hbb=>?_))
  |(refine aj (qQ (d:=d) (r:=⟨rn,iG,2,rf,dz,dA,rs,iH,iI,iJ,iK,iL⟩) (v1:=.slice a1 dz.length c1) (v2:=.slice a2 dA.length c2) hcl) (next:=λbb hbb=>?_))
  |(refine go ?_;first
   |with_reducible refine lV (λ_=>?_) (λ_=>?_)
   |with_reducible refine kV (λ_=>?_) (λ_=>?_)
   |with_reducible refine lD (λ_=>?_) (λ_=>?_)
   |refine ay rfl (λ_=>?_) (λ_=>?_)
   |refine eX rfl (λ_=>?_) (λ_=>?_)
   |refine iZ rfl (λ_=>?_) (λ_=>?_)
   |skip)))
 all_goals (try simp only[eO]at *)
 all_goals (first
  |(refine ae false (hv:=by rfl) (hp:=⟨(λh=>by cases h),λh=>?_⟩)
    exfalso
    rw[x9 rfl rfl rfl rfl]at h;obtain⟨⟨q1,q2,q3,q4,q5,q6⟩,h7⟩:=h;dsimp only at q1 q2 q3 q4 q5 q6 h7;first
     |(simp_all;done)
     |(obtain⟨⟨p1,p2,p3⟩,p4,p5,p6⟩:=h7;dsimp only at p1 p2 p3 p4 p5 p6;first|(simp_all;done)|(simp_all;omega)|omega))
  |(refine ae true (hv:=by rfl) (hp:=⟨λ_=>?_,λ_=>rfl⟩)
    rw[x9 rfl rfl rfl rfl];first
     |(refine⟨⟨?_,?_,?_,?_,?_,?_⟩,⟨?_,?_,?_⟩,?_,?_,?_⟩<;>dsimp only<;>first|(simp_all;done)|(simp_all;omega)|omega)
     |(refine⟨⟨?_,?_,?_,?_,?_,?_⟩,?_⟩<;>first|(simp_all;done)|(simp_all;omega)))
  |(refine ae bb (hv:=by rfl) (hp:=?_)
    rw[x9 rfl rfl rfl rfl];constructor
    ·intro hb;refine⟨⟨?_,?_,?_,?_,?_,?_⟩,⟨?_,?_,?_⟩,?_,?_,?_⟩<;>dsimp only<;>first|(simp_all;done)|(simp_all;omega)|omega
    ·rintro⟨⟨q1,q2,q3,q4,q5,q6⟩,⟨p1,p2,p3⟩,p4,p5,p6⟩;dsimp only at q1 q2 q3 q4 q5 q6 p1 p2 p3 p4 p5 p6
     simp_all))
theorem air{d:bG}{r:bB}{vh vs vr vc vu v1 v2:Value}(hk:r.kind=3)(hcl:d.aM.length<=4096)(h1:r.names.length<9223372036854775808)(h2:r.others.length<9223372036854775808):jL d r vh vs vr vc vu v1 v2:=by
 obtain⟨rn,iG,rk,rf,dz,dA,rs,iH,iI,iJ,iK,iL⟩:=r;dsimp only at hk h1 h2;subst hk;dsimp only[jL];rw[show fF 3=⟨true,false,false,true,false,true,true,0⟩from by rfl];refine aC qj qR λB w0=>?_;refine aT (E:=bF) (v:=v1) (xs:=dz) (by simp) λa1 c1 e1=>?_;subst e1;refine aT (E:=bF) (v:=v2) (xs:=dA) (by simp) λa2 c2 e2=>?_;subst e2;refine go ?_;intro b2 b3;iterate 16 (all_goals (first
  |(refine aj (r9 (d:=d) (r:=⟨rn,iG,3,rf,dz,dA,rs,iH,iI,iJ,iK,iL⟩) (v1:=.slice a1 dz.length c1) (v2:=.slice a2 dA.length c2) hcl) (next:=λbb hbb=>?_))
  |(refine aj (qQ (d:=d) (r:=⟨rn,iG,3,rf,dz,dA,rs,iH,iI,iJ,iK,iL⟩) (v1:=.slice a1 dz.length c1) (v2:=.slice a2 dA.length c2) hcl) (next:=λbb hbb=>?_))
  |(refine go ?_;first
   |with_reducible refine lV (λ_=>?_) (λ_=>?_)
   |with_reducible refine kV (λ_=>?_) (λ_=>?_)
   |with_reducible refine lD (λ_=>?_) (λ_=>?_)
   |refine ay rfl (λ_=>?_) (λ_=>?_)
   |refine eX rfl (λ_=>?_) (λ_=>?_)
   |refine iZ rfl (λ_=>?_) (λ_=>?_)
   |skip)))
 all_goals (try simp only[eO]at *)
 all_goals (first
  |(refine ae false (hv:=by rfl) (hp:=⟨(λh=>by cases h),λh=>?_⟩)
    exfalso
    rw[x9 rfl rfl rfl rfl]at h;obtain⟨⟨q1,q2,q3,q4,q5,q6⟩,h7⟩:=h;dsimp only at q1 q2 q3 q4 q5 q6 h7;first
     |(simp_all;done)
     |(obtain⟨⟨p1,p2,p3⟩,p4,p5,p6⟩:=h7;dsimp only at p1 p2 p3 p4 p5 p6;first|(simp_all;done)|(simp_all;omega)|omega))
  |(refine ae true (hv:=by rfl) (hp:=⟨λ_=>?_,λ_=>rfl⟩)
    rw[x9 rfl rfl rfl rfl];first
     |(refine⟨⟨?_,?_,?_,?_,?_,?_⟩,⟨?_,?_,?_⟩,?_,?_,?_⟩<;>dsimp only<;>first|(simp_all;done)|(simp_all;omega)|omega)
     |(refine⟨⟨?_,?_,?_,?_,?_,?_⟩,?_⟩<;>first|(simp_all;done)|(simp_all;omega)))
  |(refine ae bb (hv:=by rfl) (hp:=?_)
    rw[x9 rfl rfl rfl rfl];constructor
    ·intro hb;refine⟨⟨?_,?_,?_,?_,?_,?_⟩,⟨?_,?_,?_⟩,?_,?_,?_⟩<;>dsimp only<;>first|(simp_all;done)|(simp_all;omega)|omega
    ·rintro⟨⟨q1,q2,q3,q4,q5,q6⟩,⟨p1,p2,p3⟩,p4,p5,p6⟩;dsimp only at q1 q2 q3 q4 q5 q6 p1 p2 p3 p4 p5 p6
     simp_all))
theorem ais{d:bG}{r:bB}{vh vs vr vc vu v1 v2:Value}(hk:r.kind=4)(hcl:d.aM.length<=4096)(h1:r.names.length<9223372036854775808)(h2:r.others.length<9223372036854775808):jL d r vh vs vr vc vu v1 v2:=by
 obtain⟨rn,iG,rk,rf,dz,dA,rs,iH,iI,iJ,iK,iL⟩:=r;dsimp only at hk h1 h2;subst hk;dsimp only[jL];rw[show fF 4=⟨true,false,false,false,false,true,true,0⟩from by rfl];refine aC qj qR λB w0=>?_;refine aT (E:=bF) (v:=v1) (xs:=dz) (by simp) λa1 c1 e1=>?_;subst e1;refine aT (E:=bF) (v:=v2) (xs:=dA) (by simp) λa2 c2 e2=>?_;subst e2;refine go ?_;intro b2 b3;iterate 16 (all_goals (first
  |(refine aj (r9 (d:=d) (r:=⟨rn,iG,4,rf,dz,dA,rs,iH,iI,iJ,iK,iL⟩) (v1:=.slice a1 dz.length c1) (v2:=.slice a2 dA.length c2) hcl) (next:=λbb hbb=>?_))
  |(refine aj (qQ (d:=d) (r:=⟨rn,iG,4,rf,dz,dA,rs,iH,iI,iJ,iK,iL⟩) (v1:=.slice a1 dz.length c1) (v2:=.slice a2 dA.length c2) hcl) (next:=λbb hbb=>?_))
  |(refine go ?_;first
   |with_reducible refine lV (λ_=>?_) (λ_=>?_)
   |with_reducible refine kV (λ_=>?_) (λ_=>?_)
   |with_reducible refine lD (λ_=>?_) (λ_=>?_)
   |refine ay rfl (λ_=>?_) (λ_=>?_)
   |refine eX rfl (λ_=>?_) (λ_=>?_)
   |refine iZ rfl (λ_=>?_) (λ_=>?_)
   |skip)))
 all_goals (try simp only[eO]at *)
 all_goals (first
  |(refine ae false (hv:=by rfl) (hp:=⟨(λh=>by cases h),λh=>?_⟩)
    exfalso
    rw[jE rfl rfl (by decide)]at h;obtain⟨⟨q1,q2,q3,q4,q5,q6⟩,h7⟩:=h;dsimp only at q1 q2 q3 q4 q5 q6 h7;first
     |(simp_all;done)
     |(obtain⟨⟨p1,p2,p3⟩,p4,p5,p6⟩:=h7;dsimp only at p1 p2 p3 p4 p5 p6;first|(simp_all;done)|(simp_all;omega)|omega))
  |(refine ae true (hv:=by rfl) (hp:=⟨λ_=>?_,λ_=>rfl⟩)
    rw[jE rfl rfl (by decide)];first
     |(refine⟨⟨?_,?_,?_,?_,?_,?_⟩,⟨?_,?_,?_⟩,?_,?_,?_⟩<;>dsimp only<;>first|(simp_all;done)|(simp_all;omega)|omega)
     |(refine⟨⟨?_,?_,?_,?_,?_,?_⟩,?_⟩<;>first|(simp_all;done)|(simp_all;omega)))
  |(refine ae bb (hv:=by rfl) (hp:=?_)
    rw[jE rfl rfl (by decide)];constructor
    ·intro hb;refine⟨⟨?_,?_,?_,?_,?_,?_⟩,⟨?_,?_,?_⟩,?_,?_,?_⟩<;>dsimp only<;>first|(simp_all;done)|(simp_all;omega)|omega
    ·rintro⟨⟨q1,q2,q3,q4,q5,q6⟩,⟨p1,p2,p3⟩,p4,p5,p6⟩;dsimp only at q1 q2 q3 q4 q5 q6 p1 p2 p3 p4 p5 p6
     simp_all))
theorem ait{d:bG}{r:bB}{vh vs vr vc vu v1 v2:Value}(hk:r.kind=5)(hcl:d.aM.length<=4096)(h1:r.names.length<9223372036854775808)(h2:r.others.length<9223372036854775808):jL d r vh vs vr vc vu v1 v2:=by
 obtain⟨rn,iG,rk,rf,dz,dA,rs,iH,iI,iJ,iK,iL⟩:=r;dsimp only at hk h1 h2;subst hk;dsimp only[jL];rw[show fF 5=⟨true,true,false,false,false,true,true,3⟩from by rfl];refine aC qj qR λB w0=>?_;refine aT (E:=bF) (v:=v1) (xs:=dz) (by simp) λa1 c1 e1=>?_;subst e1;refine aT (E:=bF) (v:=v2) (xs:=dA) (by simp) λa2 c2 e2=>?_;subst e2;refine go ?_;intro b2 b3;iterate 16 (all_goals (first
  |(refine aj (r9 (d:=d) (r:=⟨rn,iG,5,rf,dz,dA,rs,iH,iI,iJ,iK,iL⟩) (v1:=.slice a1 dz.length c1) (v2:=.slice a2 dA.length c2) hcl) (next:=λbb hbb=>?_))
  |(refine aj (qQ (d:=d) (r:=⟨rn,iG,5,rf,dz,dA,rs,iH,iI,iJ,iK,iL⟩) (v1:=.slice a1 dz.length c1) (v2:=.slice a2 dA.length c2) hcl) (next:=λbb hbb=>?_))
  |(refine go ?_;first
   |with_reducible refine lV (λ_=>?_) (λ_=>?_)
   |with_reducible refine kV (λ_=>?_) (λ_=>?_)
   |with_reducible refine lD (λ_=>?_) (λ_=>?_)
   |refine ay rfl (λ_=>?_) (λ_=>?_)
   |refine eX rfl (λ_=>?_) (λ_=>?_)
   |refine iZ rfl (λ_=>?_) (λ_=>?_)
   |skip)))
 all_goals (try simp only[eO]at *)
 all_goals (first
  |(refine ae false (hv:=by rfl) (hp:=⟨(λh=>by cases h),λh=>?_⟩)
    exfalso
    rw[jE rfl rfl (by decide)]at h;obtain⟨⟨q1,q2,q3,q4,q5,q6⟩,h7⟩:=h;dsimp only at q1 q2 q3 q4 q5 q6 h7;first
     |(simp_all;done)
     |(obtain⟨⟨p1,p2,p3⟩,p4,p5,p6⟩:=h7;dsimp only at p1 p2 p3 p4 p5 p6;first|(simp_all;done)|(simp_all;omega)|omega))
  |(refine ae true (hv:=by rfl) (hp:=⟨λ_=>?_,λ_=>rfl⟩)
    rw[jE rfl rfl (by decide)];first
     |(refine⟨⟨?_,?_,?_,?_,?_,?_⟩,⟨?_,?_,?_⟩,?_,?_,?_⟩<;>dsimp only<;>first|(simp_all;done)|(simp_all;omega)|omega)
     |(refine⟨⟨?_,?_,?_,?_,?_,?_⟩,?_⟩<;>first|(simp_all;done)|(simp_all;omega)))
  |(refine ae bb (hv:=by rfl) (hp:=?_)
    rw[jE rfl rfl (by decide)];constructor
    ·intro hb;refine⟨⟨?_,?_,?_,?_,?_,?_⟩,⟨?_,?_,?_⟩,?_,?_,?_⟩<;>dsimp only<;>first|(simp_all;done)|(simp_all;omega)|omega
    ·rintro⟨⟨q1,q2,q3,q4,q5,q6⟩,⟨p1,p2,p3⟩,p4,p5,p6⟩;dsimp only at q1 q2 q3 q4 q5 q6 p1 p2 p3 p4 p5 p6
     simp_all))
theorem aiu{d:bG}{r:bB}{vh vs vr vc vu v1 v2:Value}(hk:r.kind=6)(hcl:d.aM.length<=4096)(h1:r.names.length<9223372036854775808)(h2:r.others.length<9223372036854775808):jL d r vh vs vr vc vu v1 v2:=by
 obtain⟨rn,iG,rk,rf,dz,dA,rs,iH,iI,iJ,iK,iL⟩:=r;dsimp only at hk h1 h2;subst hk;dsimp only[jL];rw[show fF 6=⟨false,false,false,false,false,true,true,0⟩from by rfl];refine aC qj qR λB w0=>?_;refine aT (E:=bF) (v:=v1) (xs:=dz) (by simp) λa1 c1 e1=>?_;subst e1;refine aT (E:=bF) (v:=v2) (xs:=dA) (by simp) λa2 c2 e2=>?_;subst e2;refine go ?_;intro b2 b3;iterate 16 (all_goals (first
  |(refine aj (r9 (d:=d) (r:=⟨rn,iG,6,rf,dz,dA,rs,iH,iI,iJ,iK,iL⟩) (v1:=.slice a1 dz.length c1) (v2:=.slice a2 dA.length c2) hcl) (next:=λbb hbb=>?_))
  |(refine aj (qQ (d:=d) (r:=⟨rn,iG,6,rf,dz,dA,rs,iH,iI,iJ,iK,iL⟩) (v1:=.slice a1 dz.length c1) (v2:=.slice a2 dA.length c2) hcl) (next:=λbb hbb=>?_))
  |(refine go ?_;first
   |with_reducible refine lV (λ_=>?_) (λ_=>?_)
   |with_reducible refine kV (λ_=>?_) (λ_=>?_)
   |with_reducible refine lD (λ_=>?_) (λ_=>?_)
   |refine ay rfl (λ_=>?_) (λ_=>?_)
   |refine eX rfl (λ_=>?_) (λ_=>?_)
   |refine iZ rfl (λ_=>?_) (λ_=>?_)
   |skip)))
 all_goals (try simp only[eO]at *)
 all_goals (first
  |(refine ae false (hv:=by rfl) (hp:=⟨(λh=>by cases h),λh=>?_⟩)
    exfalso
    rw[jE rfl rfl (by decide)]at h;obtain⟨⟨q1,q2,q3,q4,q5,q6⟩,h7⟩:=h;dsimp only at q1 q2 q3 q4 q5 q6 h7;first
     |(simp_all;done)
     |(obtain⟨⟨p1,p2,p3⟩,p4,p5,p6⟩:=h7;dsimp only at p1 p2 p3 p4 p5 p6;first|(simp_all;done)|(simp_all;omega)|omega))
  |(refine ae true (hv:=by rfl) (hp:=⟨λ_=>?_,λ_=>rfl⟩)
    rw[jE rfl rfl (by decide)];first
     |(refine⟨⟨?_,?_,?_,?_,?_,?_⟩,⟨?_,?_,?_⟩,?_,?_,?_⟩<;>dsimp only<;>first|(simp_all;done)|(simp_all;omega)|omega)
     |(refine⟨⟨?_,?_,?_,?_,?_,?_⟩,?_⟩<;>first|(simp_all;done)|(simp_all;omega)))
  |(refine ae bb (hv:=by rfl) (hp:=?_)
    rw[jE rfl rfl (by decide)];constructor
    ·intro hb;refine⟨⟨?_,?_,?_,?_,?_,?_⟩,⟨?_,?_,?_⟩,?_,?_,?_⟩<;>dsimp only<;>first|(simp_all;done)|(simp_all;omega)|omega
    ·rintro⟨⟨q1,q2,q3,q4,q5,q6⟩,⟨p1,p2,p3⟩,p4,p5,p6⟩;dsimp only at q1 q2 q3 q4 q5 q6 p1 p2 p3 p4 p5 p6
     simp_all))
theorem aiv{d:bG}{r:bB}{vh vs vr vc vu v1 v2:Value}(hk:r.kind=7)(hcl:d.aM.length<=4096)(h1:r.names.length<9223372036854775808)(h2:r.others.length<9223372036854775808):jL d r vh vs vr vc vu v1 v2:=by
 obtain⟨rn,iG,rk,rf,dz,dA,rs,iH,iI,iJ,iK,iL⟩:=r;dsimp only at hk h1 h2;subst hk;dsimp only[jL];rw[show fF 7=⟨false,false,false,false,true,true,true,0⟩from by rfl];refine aC qj qR λB w0=>?_;refine aT (E:=bF) (v:=v1) (xs:=dz) (by simp) λa1 c1 e1=>?_;subst e1;refine aT (E:=bF) (v:=v2) (xs:=dA) (by simp) λa2 c2 e2=>?_;subst e2;refine go ?_;intro b2 b3;iterate 16 (all_goals (first
  |(refine aj (r9 (d:=d) (r:=⟨rn,iG,7,rf,dz,dA,rs,iH,iI,iJ,iK,iL⟩) (v1:=.slice a1 dz.length c1) (v2:=.slice a2 dA.length c2) hcl) (next:=λbb hbb=>?_))
  |(refine aj (qQ (d:=d) (r:=⟨rn,iG,7,rf,dz,dA,rs,iH,iI,iJ,iK,iL⟩) (v1:=.slice a1 dz.length c1) (v2:=.slice a2 dA.length c2) hcl) (next:=λbb hbb=>?_))
  |(refine go ?_;first
   |with_reducible refine lV (λ_=>?_) (λ_=>?_)
   |with_reducible refine kV (λ_=>?_) (λ_=>?_)
   |with_reducible refine lD (λ_=>?_) (λ_=>?_)
   |refine ay rfl (λ_=>?_) (λ_=>?_)
   |refine eX rfl (λ_=>?_) (λ_=>?_)
   |refine iZ rfl (λ_=>?_) (λ_=>?_)
   |skip)))
 all_goals (try simp only[eO]at *)
 all_goals (first
  |(refine ae false (hv:=by rfl) (hp:=⟨(λh=>by cases h),λh=>?_⟩)
    exfalso
    rw[jE rfl rfl (by decide)]at h;obtain⟨⟨q1,q2,q3,q4,q5,q6⟩,h7⟩:=h;dsimp only at q1 q2 q3 q4 q5 q6 h7;first
     |(simp_all;done)
     |(obtain⟨⟨p1,p2,p3⟩,p4,p5,p6⟩:=h7;dsimp only at p1 p2 p3 p4 p5 p6;first|(simp_all;done)|(simp_all;omega)|omega))
  |(refine ae true (hv:=by rfl) (hp:=⟨λ_=>?_,λ_=>rfl⟩)
    rw[jE rfl rfl (by decide)];first
     |(refine⟨⟨?_,?_,?_,?_,?_,?_⟩,⟨?_,?_,?_⟩,?_,?_,?_⟩<;>dsimp only<;>first|(simp_all;done)|(simp_all;omega)|omega)
     |(refine⟨⟨?_,?_,?_,?_,?_,?_⟩,?_⟩<;>first|(simp_all;done)|(simp_all;omega)))
  |(refine ae bb (hv:=by rfl) (hp:=?_)
    rw[jE rfl rfl (by decide)];constructor
    ·intro hb;refine⟨⟨?_,?_,?_,?_,?_,?_⟩,⟨?_,?_,?_⟩,?_,?_,?_⟩<;>dsimp only<;>first|(simp_all;done)|(simp_all;omega)|omega
    ·rintro⟨⟨q1,q2,q3,q4,q5,q6⟩,⟨p1,p2,p3⟩,p4,p5,p6⟩;dsimp only at q1 q2 q3 q4 q5 q6 p1 p2 p3 p4 p5 p6
     simp_all))
