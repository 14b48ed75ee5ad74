/-
  The reference's types: regions, clues, bounds; rules that can be read.
-/
import Derived.Test.YtoohgkkmdnbnfaaGreatDoorLibPB
import Derived.Test.YtoohgkkmdnbnfaaGreatDoorLibQB
import Derived.Test.YtoohgkkmdnbnfaaGreatDoorLibJB
set_option linter.all false
set_option maxRecDepth 10000
set_option maxHeartbeats 4000000
namespace Go.Proofs.YtoohgkkmdnbnfaaGreatDoor
open Go.Ideal Kd
abbrev xD(a b:List Int):Prop:=(∀x∈a,x∈b)/\∀x∈b,x∈a
theorem aeQ{va vb:Value}{xs ys:List Int}(hx:xs.length<9223372036854775808)(hy:ys.length<9223372036854775808):bY Tryz.prog 175 [va,vb] [ah ae va xs,ah ae vb ys] (.bool (decide (xD xs ys))):=by
 refine aG _ (aM 175) λB w0=>?_;refine aT (E:=ae) (v:=va) (xs:=xs) (by simp) λa1 c1 e1=>?_;subst e1;refine aT (E:=ae) (v:=vb) (xs:=ys) (by simp) λa2 c2 e2=>?_;subst e2;refine go ?_;refine aX (λk=>xs.length - k) (λk:Nat=>[(5,.int .i64 (k:Int))]) (λ_=>[]) (λ_=>[]) (λk=>k<=xs.length/\∀x∈xs.take k,x∈ys) 0 ⟨by omega,by simp⟩ (body:=?_);rintro k ⟨hk,hall⟩;refine go ?_;refine az rfl (λh1=>?_) (λh1=>?_)
 ·refine go ?_;intro _ _ x hx;refine go ?_;refine ak (GR (xs:=ys) (z:=x) (by omega)) (next:=λ_ _=>?_);refine go ?_;refine ed rfl (λh2=>?_) (λh2=>?_)
  ·refine go ?_;refine aa () (hv:=?_) (hp:=trivial);rw[aR (λh:xD xs ys=>h2 (h.1 x (bJ hx)))];rfl
  refine go ?_;refine aO (k+1) (by omega) ⟨by omega,?_⟩;rw[bV hx];intro z hz;rcases dZ.1 hz with hz|hz
  ·exact hall z hz
  ·rw[bG.1 hz];exact h2
 have hkl:k=xs.length:=by omega
 subst hkl;rw[bK]at hall;have aeR:=hall;clear hall hk h1;refine go ?_;refine aX (λk=>ys.length - k) (λk:Nat=>[(6,.int .i64 (k:Int))]) (λ_=>[]) (λ_=>[]) (λk=>k<=ys.length/\∀x∈ys.take k,x∈xs) 0 ⟨by omega,by simp⟩ (body:=?_);rintro k ⟨hk,hall⟩;refine go ?_;refine az rfl (λh1=>?_) (λh1=>?_)
 ·refine go ?_;intro _ _ x hx;refine go ?_;refine ak (GR (xs:=xs) (z:=x) (by omega)) (next:=λ_ _=>?_);refine go ?_;refine ed rfl (λh2=>?_) (λh2=>?_)
  ·refine go ?_;refine aa () (hv:=?_) (hp:=trivial);rw[aR (λh:xD xs ys=>h2 (h.2 x (bJ hx)))];rfl
  refine go ?_;refine aO (k+1) (by omega) ⟨by omega,?_⟩;rw[bV hx];intro z hz;rcases dZ.1 hz with hz|hz
  ·exact hall z hz
  ·rw[bG.1 hz];exact h2
 have hkl:k=ys.length:=by omega
 subst hkl;rw[bK]at hall;refine go ?_;refine aa () (hv:=?_) (hp:=trivial);rw[eB (show xD xs ys from⟨aeR,hall⟩)];rfl
theorem aeS{g:bz}{ps:List Int}(h:wY g ps):ps.Nodup:=by
 have:=h.nd;unfold List.Nodup at this⊢;rw[EE]at this;exact this.imp λh e=>h (by rw[e])
theorem Tp{a b:List Int}(ha:a.Nodup)(hb:b.Nodup):xD a b↔cO a=cO b:=by
 constructor
 ·rintro⟨h1,h2⟩;exact QM ((List.perm_ext_iff_of_nodup ha hb).2 λx=>⟨h1 x,h2 x⟩)
 ·intro h;exact⟨λx hx=>by rw[<- vw,<- h,vw];exact hx,λx hx=>by rw[<- vw,h,vw];exact hx⟩
theorem aeT{ls:List (List Int)}(hn:∀l∈ls,l.Nodup):(ls.map cO).Nodup↔∀(i j:Nat) a b,j<i->ls[i]? =some a->ls[j]? =some b->¬xD a b:=by
 rw[List.nodup_iff_pairwise_ne,EE,Bq];constructor
 ·intro h i j a b hij ha hb hk;obtain⟨hi,rfl⟩:=bT.1 ha;obtain⟨hj,rfl⟩:=bT.1 hb;exact h j i hj hi hij ((Tp (hn _ (vP hi)) (hn _ (vP hj))).1 hk).symm
 ·intro h j i hj hi hij e;exact h i j ls[i] ls[j] hij (cK hi) (cK hj) ((Tp (hn _ (vP hi)) (hn _ (vP hj))).2 e.symm)
theorem aeU{d:bq}{vh vs vr vc vu gh gc:Value}{g:bz}(hS:lC d)(hG:oV g):
 aZ Tryz.prog (.func 128) [.agg ⟨fO d vh vs vr vc vu⟩,.agg ⟨iw g gh gc⟩] [] [] (ah dW vr d.regions::iV g gh gc) (λe:Int=>.int .i64 e) (λ_=>[]) (λ_=>[]) (λe=>e=0↔∀r∈d.regions,xq g r):=by
 have hrl:=hS.regs;have hre:=hS.qd;refine aG _ (aM 128) λB w0=>?_;refine aT (E:=dW) (v:=vr) (xs:=d.regions) (by simp) λa1 c1 e1=>?_;subst e1;refine go ?_;intro b2 b3;refine bB (fG (b:=b2)) (h:=?_);refine bB (fG (b:=b3)) (h:=?_);refine go ?_;refine aX (λk=>d.regions.length - k) (λk:Nat=>[(5,.int .i64 (k:Int))]) (λ_=>[]) (λ_=>[]) (λk=>k<=d.regions.length/\∀r∈d.regions.take k,xq g r) 0 ⟨by omega,by simp⟩ (body:=?_);rintro k ⟨hk,hall⟩;refine go ?_;refine az rfl (λh1=>?_) (λh1=>?_)
 ·refine go ?_;refine aY dW (xs:=d.regions) (next:=λ_ _ r (vl:Value) hr=>?_);have hrm:=bJ hr;have hrx:=hre r hrm;generalize hls:r.lists=ls at hrx;refine aT (E:=aj ae) (v:=vl) (xs:=ls) (by simp) λal cl el=>?_;subst el;refine go ?_;refine ak (SX (g:=g) (vh:=gh) (vc:=gc) (vr:=.slice al ls.length cl) (rs:=ls) hG hrx.1 hrx.2) (next:=λy hy=>?_);obtain⟨v7,e⟩:=y;dsimp only at hy⊢;refine go ?_;refine az rfl (λh2=>?_) (λh2=>?_)
  ·refine go ?_;exact aa e (hv:=rfl) (hp:=⟨λh=>absurd h h2,λh=>by exfalso;have:=h r hrm;exact h2 (hy.2 (by rw[<- hls];exact this.1))⟩)
  have he:e=0:=iF.1 h2;obtain⟨hg,hro⟩:=hy.1 he;subst he;clear hy h2;have hnd:∀l∈ls,l.Nodup:=λl hl=>aeS (hro.all l hl);have Tq:=aeT hnd;refine go ?_;refine aX (λi=>ls.length - i) (λi:Nat=>[(9,.int .i64 (i:Int))]) (λ_=>[]) (λ_=>[]) (λi=>i<=ls.length/\∀(i' j:Nat) a b,i'<i->j<i'->ls[i']? =some a->ls[j]? =some b->¬xD a b) 0 ⟨by omega,λi' j a b h=>by omega⟩ (body:=?_);rintro i ⟨hi,hin⟩;refine go ?_;refine az rfl (λh3=>?_) (λh3=>?_)
  ·obtain⟨a,ha⟩:∃a,ls[i]? =some a:=⟨ls[i]'(by omega),cK _⟩
   have hal:=hrx.2 a (bJ ha);refine go ?_;refine aX (λj=>i - j) (λj:Nat=>[(10,.int .i64 (j:Int))]) (λ_=>[]) (λ_=>[]) (λj=>j<=i/\∀(j':Nat) b,j'<j->ls[j']? =some b->¬xD a b) 0 ⟨by omega,λj' b h=>by omega⟩ (body:=?_);rintro j ⟨hj,hjn⟩;refine go ?_;refine az rfl (λh4=>?_) (λh4=>?_)
   ·refine go ?_;refine aY (aj ae) (xs:=ls) (next:=λ_ _ a' (_:Value) ha'=>?_);cases ha.symm.trans ha';refine go ?_;refine aY (aj ae) (xs:=ls) (next:=λ_ _ b (_:Value) hb=>?_);have hbl:=hrx.2 b (bJ hb);refine go ?_;refine ak (aeQ (xs:=a) (ys:=b) hal hbl) (next:=λ_ _=>?_);refine go ?_;refine az rfl (λh5=>?_) (λh5=>?_)
    ·refine go ?_;exact aa 161 (hv:=rfl) (hp:=⟨(λh=>by cases h),λh=>by
      exfalso
      have h6:=(h r hrm).2;rw[hls]at h6;exact Tq.1 h6 i j a b (by omega) ha hb h5⟩)
    refine go ?_;refine aO (j+1) (by omega) ⟨by omega,λj' b' hj' hb'=>?_⟩;by_cases e:j'=j
    ·subst e;rw[hb]at hb';cases hb';exact h5
    ·exact hjn j' b' (by omega) hb'
   have hji:j=i:=by omega
   subst hji;refine go ?_;refine aO (j+1) (by omega) ⟨by omega,λi' j' a' b' hi' hj' ha' hb'=>?_⟩;by_cases e:i'=j
   ·subst e;rw[ha]at ha';cases ha';exact hjn j' b' hj' hb'
   ·exact hin i' j' a' b' (by omega) hj' ha' hb'
  have hil:i=ls.length:=by omega
  subst hil;have hR:xq g r:=⟨⟨hg,by rw[hls];exact hro⟩,by rw[hls];exact Tq.2 λi j a b hij ha hb=>hin i j a b (bT.1 ha).1 hij ha hb⟩
  refine go ?_;refine aO (k+1) (by omega) ⟨by omega,?_⟩;rw[bV hr];intro z hz;rcases dZ.1 hz with hz|hz
  ·exact hall z hz
  ·rw[bG.1 hz];exact hR
 have hkl:k=d.regions.length:=by omega
 subst hkl;rw[bK]at hall;refine go ?_;exact aa 0 (hv:=rfl) (hp:=⟨λ_=>hall,λ_=>rfl⟩)
theorem aeV{c:iP}:bY Tryz.prog 177 [.agg ⟨Gx c⟩] [] (.bool (decide (qg c))):=by
 refine aG _ (aM 177) λB w0=>?_;refine go ?_;intro b1;iterate 13 (all_goals (first
  |(refine aa () (hv:=?_) (hp:=trivial);first
   |exact congrArg Value.bool (mG.2 (by unfold qg;omega))
   |exact congrArg Value.bool (aR (by unfold qg;omega)).symm
   |exact congrArg Value.bool (eB (by unfold qg;omega)).symm)
  |(refine go ?_;first
   |with_reducible refine aL (λ_=>?_) (λ_=>?_)
   |with_reducible refine aK (λ_=>?_) (λ_=>?_)
   |refine az rfl (λ_=>?_) (λ_=>?_)
   |skip)))
theorem aeW{r:bM}{v1 v2:Value}:bY Tryz.prog 178 [.agg ⟨kF r v1 v2⟩] [] (.bool (decide (1<=r.kind/\r.kind<=11))):=by
 refine aG _ (aM 178) λB w0=>?_;refine go ?_;intro b1;refine go ?_;first|with_reducible refine aL (λh1=>?_) (λh1=>?_)|with_reducible refine aK (λh1=>?_) (λh1=>?_)|with_reducible refine aI (λh1=>?_) (λh1=>?_)
 ·refine go ?_;refine aa () (hv:=?_) (hp:=trivial);rw[aR (λh=>h1 (by omega))];rfl
 refine go ?_;refine aa () (hv:=?_) (hp:=trivial);exact congrArg Value.bool (mG.2 (by omega))
theorem aeX(k:Int):(gz k).read=decide (1<=k/\k<=11):=by
 by_cases h:0<=k/\k<14
 ·have hc:k=0\/k=1\/k=2\/k=3\/k=4\/k=5\/k=6\/k=7\/k=8\/k=9\/k=10\/k=11\/k=12\/k=13:=by omega
  rcases hc with rfl|rfl|rfl|rfl|rfl|rfl|rfl|rfl|rfl|rfl|rfl|rfl|rfl|rfl<;>rfl
 ·rw[Eg (by omega),aR (by omega)]
theorem aeY{d:bq}{vh vs vr vc vu:Value}(hl:d.rules.length<=4096):aZ Tryz.prog (.func 130) [.agg ⟨fO d vh vs vr vc vu⟩] [] [] [ah aW vu d.rules] (λa:Option Addr=>.slice a (iW d.rules).length (iW d.rules).length) (λ_=>[]) (λ_=>[]) (λ_=>True):=by
 refine aG _ (aM 130) λB w0=>?_;refine aT (E:=aW) (v:=vu) (xs:=d.rules) (by simp) λa1 c1 e1=>?_;subst e1;refine go ?_;intro b1;refine bB (fG (b:=b1)) (h:=?_);refine go ?_;refine gq ae ?_;refine aX (λy:Nat×Value=>d.rules.length - y.1) (λy=>[(4,.int .i64 (y.1:Int)),(3,y.2)]) (λy=>[ap ae y.2 (iW (d.rules.take y.1))]) (λ_=>[]) (λy=>y.1<=d.rules.length/\(iW (d.rules.take y.1)).length<=y.1) (0,.slice none 0 0) ⟨bX _,bI _⟩ (hk:=by repeat (first|exact aH.nil|(apply aH.cons;(focus (repeat (first|exact ay.here|apply ay.there)))))) (body:=?_);rintro⟨k,v3⟩ ⟨hk,hkl⟩;dsimp only at hk hkl⊢;refine go ?_;refine az rfl (λh1=>?_) (λh1=>?_)
 ·refine go ?_;refine aY aW (xs:=d.rules) (next:=λ_ _ x (vx:Value×Value) hx=>?_);have zn:=Sj hx;rw[aeX]at zn;refine go ?_;refine ak (aeW (r:=x) (v1:=vx.1) (v2:=vx.2)) (next:=λ_ _=>?_);refine go ?_;refine ed rfl (λh2=>?_) (λh2=>?_)
  ·rw[if_neg (by rw[aR h2];simp)]at zn;refine go ?_;intro b21;refine go ?_;refine fe ae (xs:=iW (d.rules.take k)) (k:Int) () (by omega) (next:=λad=>?_);rw[<- zn];refine go ?_;refine aO (k+1,.slice ad ((iW (d.rules.take k)).length+1) ((iW (d.rules.take k)).length+1)) (by show d.rules.length - (k+1)<d.rules.length - k;omega) ⟨by show k+1<=_;omega,?_⟩;show(iW (d.rules.take (k+1))).length<=k+1;rw[zn,gB,uk];omega
  ·rw[if_pos (eB h2),gD]at zn;rw[<- zn];refine go ?_;refine aO (k+1,v3) (by show d.rules.length - (k+1)<d.rules.length - k;omega) ⟨by show k+1<=_;omega,?_⟩;show(iW (d.rules.take (k+1))).length<=k+1;rw[zn];omega
 have hke:k=d.rules.length:=by omega
 subst hke;rw[bK];refine nX (E:=ae) (v:=v3) (xs:=iW d.rules) λa3 e3=>?_;subst e3;refine go ?_;exact aa a3 (hv:=rfl) (hp:=trivial)
def G6(cs:List iP)(r:bM)(kind:Int)(on:Bool):Prop:=0<=r.aQ/\r.aQ<cs.length/\∃c,cs[r.aQ.toNat]? =some c/\c.type=kind/\(on=false\/c.family=r.family)
theorem o9{d:bq}{r:bM}{kind:Int}{on:Bool}{vh vs vr vc vu v1 v2:Value}(hcl:d.aF.length<=4096):
 aZ Tryz.prog (.func 242) [.agg ⟨fO d vh vs vr vc vu⟩,.agg ⟨kF r v1 v2⟩,.int .i64 kind,.bool on] [] [] [ah bC vc d.aF] (λb:Bool=>.bool b) (λ_=>[]) (λ_=>[]) (λb=>b=true↔G6 d.aF r kind on):=by
 refine aG _ (aM 242) λB w0=>?_;refine aT (E:=bC) (v:=vc) (xs:=d.aF) (by simp) λa1 c1 e1=>?_;subst e1;refine go ?_;intro b4 b5;refine go ?_;first|with_reducible refine aL (λh1=>?_) (λh1=>?_)|with_reducible refine aK (λh1=>?_) (λh1=>?_)|with_reducible refine aI (λh1=>?_) (λh1=>?_)
 rotate_left
 ·refine go ?_;exact aa false (hv:=rfl) (hp:=⟨(λh=>by cases h),λh=>by exfalso;have:=h.1;omega⟩)
 refine go ?_;refine az rfl (λh2=>?_) (λh2=>?_)
 ·refine go ?_;exact aa false (hv:=rfl) (hp:=⟨(λh=>by cases h),λh=>by exfalso;have:=h.2.1;omega⟩)
 obtain⟨k,hk⟩:=qy (show 0<=r.aQ by omega);refine go ?_;rw[hk];refine aY bC (xs:=d.aF) (next:=λ_ _ c (_:Unit) hc=>?_);have hc':d.aF[r.aQ.toNat]? =some c:=by rw[hk];exact hc
 have Tt:∀c',d.aF[r.aQ.toNat]? =some c'->c'=c:=λc' h=>by rw[hc']at h;exact(Option.some.inj h).symm
 refine go ?_;intro b9;refine go ?_;first|with_reducible refine aL (λh3=>?_) (λh3=>?_)|with_reducible refine aK (λh3=>?_) (λh3=>?_)|with_reducible refine aI (λh3=>?_) (λh3=>?_)
 ·refine go ?_;exact aa false (hv:=rfl) (hp:=⟨(λh=>by cases h),λh=>by
   exfalso
   obtain⟨_,_,c',p1,p2,_⟩:=h;rw[Tt c' p1]at p2;exact h3 p2⟩)
 cases on with
 |false=>
  refine go ?_;exact aa true (hv:=rfl) (hp:=⟨λ_=>⟨by omega,by omega,c,hc',h3,.inl rfl⟩,λ_=>rfl⟩)
 |true=>
  refine go ?_;refine aa (decide (c.family=r.family)) (hv:=rfl) (hp:=⟨λh=>⟨by omega,by omega,c,hc',h3,.inr (iB h)⟩,λh=>?_⟩);obtain⟨_,_,c',p1,p2,p3⟩:=h;rw[Tt c' p1]at p3;exact eB (p3.resolve_left (by simp))
def Tu(cs:List iP)(r:bM):Prop:=(1<=r.op/\r.op<=3)/\((r.dL=rC/\(0<=r.n/\r.n<=65536)/\r.aQ= -1)\/(r.dL≠rC/\r.n=0/\G6 cs r 2 true))
theorem qm{d:bq}{r:bM}{vh vs vr vc vu v1 v2:Value}(hcl:d.aF.length<=4096):
 aZ Tryz.prog (.func 241) [.agg ⟨fO d vh vs vr vc vu⟩,.agg ⟨kF r v1 v2⟩] [] [] [ah bC vc d.aF] (λb:Bool=>.bool b) (λ_=>[]) (λ_=>[]) (λb=>b=true↔Tu d.aF r):=by
 refine aG _ (aM 241) λB w0=>?_;refine go ?_;intro b2 b3;refine go ?_;first|with_reducible refine aL (λh1=>?_) (λh1=>?_)|with_reducible refine aK (λh1=>?_) (λh1=>?_)|with_reducible refine aI (λh1=>?_) (λh1=>?_)
 rotate_left
 ·refine go ?_;exact aa false (hv:=rfl) (hp:=⟨(λh=>by cases h),λh=>by exfalso;have:=h.1;omega⟩)
 refine go ?_;refine az rfl (λh2=>?_) (λh2=>?_)
 ·refine go ?_;exact aa false (hv:=rfl) (hp:=⟨(λh=>by cases h),λh=>by exfalso;have:=h.1;omega⟩)
 refine go ?_;refine jJ rfl (λh3=>?_) (λh3=>?_)
 ·rw[dQ]at h3;have h3:r.dL=rC:=iB h3;refine go ?_;first|with_reducible refine aL (λh4=>?_) (λh4=>?_)|with_reducible refine aK (λh4=>?_) (λh4=>?_)|with_reducible refine aI (λh4=>?_) (λh4=>?_)
  ·refine go ?_;exact aa false (hv:=rfl) (hp:=⟨(λh=>by cases h),λh=>by
    exfalso
    rcases h.2 with⟨_,q,_⟩|⟨q,_⟩
    ·omega
    ·exact q h3⟩)
  refine go ?_;first|with_reducible refine aL (λh5=>?_) (λh5=>?_)|with_reducible refine aK (λh5=>?_) (λh5=>?_)|with_reducible refine aI (λh5=>?_) (λh5=>?_)
  ·refine go ?_;exact aa false (hv:=rfl) (hp:=⟨(λh=>by cases h),λh=>by
    exfalso
    rcases h.2 with⟨_,q,_⟩|⟨q,_⟩
    ·omega
    ·exact q h3⟩)
  refine go ?_;exact aa (decide (r.aQ= -1)) (hv:=rfl) (hp:=⟨λh=>⟨⟨by omega,by omega⟩,.inl ⟨h3,⟨by omega,by omega⟩,iB h⟩⟩,λh=>by
   rcases h.2 with⟨_,_,q⟩|⟨q,_⟩
   ·exact eB q
   ·exact absurd h3 q⟩)
 ·rw[dQ]at h3;have h3:¬r.dL=rC:=lY h3;refine go ?_;first|with_reducible refine aL (λh4=>?_) (λh4=>?_)|with_reducible refine aK (λh4=>?_) (λh4=>?_)|with_reducible refine aI (λh4=>?_) (λh4=>?_)
  ·refine go ?_;exact aa false (hv:=rfl) (hp:=⟨(λh=>by cases h),λh=>by
    exfalso
    rcases h.2 with⟨q,_⟩|⟨_,q,_⟩
    ·exact h3 q
    ·exact h4 q⟩)
  refine go ?_;refine ak (o9 (d:=d) (r:=r) (kind:=2) (on:=true) (vh:=vh) (vs:=vs) (vr:=vr) (vc:=vc) (vu:=vu) (v1:=v1) (v2:=v2) hcl) (next:=λb hb=>?_);refine go ?_;exact aa b (hv:=rfl) (hp:=⟨λh=>⟨⟨by omega,by omega⟩,.inr ⟨h3,h4,hb.1 h⟩⟩,λh=>by
   rcases h.2 with⟨q,_⟩|⟨_,_,q⟩
   ·exact absurd q h3
   ·exact hb.2 q⟩)
noncomputable def oh:=rR Tryz.prog 176
theorem pg:kz Tryz.prog 176=some oh:=by kernel_rfl
abbrev jd(d:bq)(r:bM)(vh vs vr vc vu v1 v2:Value):Prop:=aZ Tryz.prog (.func 176) [.agg ⟨fO d vh vs vr vc vu⟩,.agg ⟨kF r v1 v2⟩] [] [] [ah bC vc d.aF,ah aN v1 r.names,ah aN v2 r.others] (λb:Bool=>.bool b) (λ_=>[]) (λ_=>[]) (λb=>b=true↔tY (gz r.kind) d.aF r)
structure Tv(x:zb)(r:bM):Prop where
 on:(x.on=true↔r.on≠rC)
 rq:x.on=true\/r.family=0
 set:(x.set=true↔r.set≠0)
 names:x.set=true\/r.names=[]
 other:(x.other=true↔r.other≠0)
 others:x.other=true\/r.others=[]
structure aeZ(x:zb)(r:bM):Prop where
 op:r.op=0
 n:x.free=true\/r.n=0
 dL:x.aQ≠0\/(r.dL=rC/\r.aQ= -1)
theorem vN{x:zb}{cs:List iP}{r:bM}(hk:x.known=true)(ho:x.op=true)(hf:x.free=false)(hc:x.aQ=0):tY x cs r↔Tv x r/\Tu cs r:=by
 constructor
 ·rintro⟨q1,q2,q3,q4,q5,q6,q7,q8,q9,ze,zf,jN⟩;refine⟨⟨q2,q5,q3,q6,q4,q7⟩,q8.1 ho,?_⟩;by_cases hb:r.dL=rC
  ·left;rcases jN 0 (by rw[if_neg (λh=>h.2 hb),hc])with⟨_,_,w⟩|⟨w,_⟩
   ·exact⟨hb,ze,w⟩
   ·exact absurd rfl w
  ·right;rcases jN 2 (by rw[if_pos ⟨ho,hb⟩])with⟨w,_⟩|⟨_,w1,w2,c,w3,w4,w5⟩
   ·cases w
   ·refine⟨hb,?_,w1,w2,c,w3,w4,.inr (w5.resolve_left (by omega))⟩;rcases zf with h|⟨_,h⟩|h
    ·rw[hf]at h;cases h
    ·exact absurd h hb
    ·exact h
 ·rintro⟨⟨q2,q5,q3,q6,q4,q7⟩,p1,p2⟩;refine⟨hk,q2,q3,q4,q5,q6,q7,⟨λ_=>p1,λ_=>ho⟩,.inl ho,?_,?_,λneed hn=>?_⟩
  ·rcases p2 with⟨_,h,_⟩|⟨_,h,_⟩
   ·exact h
   ·omega
  ·rcases p2 with⟨h,_,_⟩|⟨_,h,_⟩
   ·exact .inr (.inl ⟨ho,h⟩)
   ·exact .inr (.inr h)
  ·rcases p2 with⟨h,_,h2⟩|⟨h,_,w1,w2,c,w3,w4,w5⟩
   ·rw[if_neg (λq=>q.2 h),hc]at hn;exact .inl ⟨hn,h,h2⟩
   ·rw[if_pos ⟨ho,h⟩]at hn;exact .inr ⟨by omega,w1,w2,c,w3,by rw[hn];exact w4,.inr (w5.resolve_left (by simp))⟩
theorem iX{x:zb}{cs:List iP}{r:bM}(hk:x.known=true)(ho:x.op=false)(hc:x.aQ=0\/x.aQ=1\/x.aQ=3):tY x cs r↔Tv x r/\aeZ x r/\(0<=r.n/\r.n<=65536)/\(x.aQ=3->G6 cs r 3 true)/\(x.aQ=1->G6 cs r 1 false):=by
 have hne:∀a b:Int,(if x.op=true/\r.dL≠rC then a else b)=b:=λa b=>if_neg (λh=>by rw[ho]at h;cases h.1);constructor
 ·rintro⟨q1,q2,q3,q4,q5,q6,q7,q8,q9,ze,zf,jN⟩;have hop:r.op=0:=by rcases q9 with h|h;rw[ho]at h;cases h;exact h
  have jN:=jN x.aQ (hne _ _).symm;refine⟨⟨q2,q5,q3,q6,q4,q7⟩,⟨hop,?_,?_⟩,ze,λh=>?_,λh=>?_⟩
  ·rcases zf with h|⟨h,_⟩|h
   ·exact .inl h
   ·rw[ho]at h;cases h
   ·exact .inr h
  ·rcases jN with⟨_,w⟩|⟨w,_⟩
   ·exact .inr w
   ·exact .inl w
  ·rcases jN with⟨w,_⟩|⟨_,w1,w2,c,w3,w4,w5⟩
   ·omega
   ·exact⟨w1,w2,c,w3,by omega,.inr (w5.resolve_left (by omega))⟩
  ·rcases jN with⟨w,_⟩|⟨_,w1,w2,c,w3,w4,w5⟩
   ·omega
   ·exact⟨w1,w2,c,w3,by omega,.inl rfl⟩
 ·rintro⟨⟨q2,q5,q3,q6,q4,q7⟩,⟨p1,p2,p3⟩,p4,p5,p6⟩;refine⟨hk,q2,q3,q4,q5,q6,q7,⟨(λh=>by rw[ho]at h;cases h),(λh=>by omega)⟩,.inr p1,p4,?_,λneed hn=>?_⟩
  ·rcases p2 with h|h
   ·exact .inl h
   ·exact .inr (.inr h)
  ·rw[hne]at hn;subst hn;rcases hc with h|h|h
   ·exact .inl ⟨h,p3.resolve_left (by omega)⟩
   ·obtain⟨w1,w2,c,w3,w4,w5⟩:=p6 h;exact .inr ⟨by omega,w1,w2,c,w3,by omega,.inl h⟩
   ·obtain⟨w1,w2,c,w3,w4,w5⟩:=p5 h;exact .inr ⟨by omega,w1,w2,c,w3,by omega,.inr (w5.resolve_left (by simp))⟩
theorem ae0{d:bq}{r:bM}{vh vs vr vc vu v1 v2:Value}(hk:r.kind=1)(hcl:d.aF.length<=4096)(h1:r.names.length<9223372036854775808)(h2:r.others.length<9223372036854775808):jd d r vh vs vr vc vu v1 v2:=by
 obtain⟨rn,gQ,rk,rf,bZ,cz,rs,gT,gU,gV,gW,gX⟩:=r;dsimp only at hk h1 h2;subst hk;dsimp only[jd];rw[show gz 1=⟨true,false,false,false,false,true,true,0⟩from by rfl];refine aG oh pg λB w0=>?_;refine aT (E:=aN) (v:=v1) (xs:=bZ) (by simp) λa1 c1 e1=>?_;subst e1;refine aT (E:=aN) (v:=v2) (xs:=cz) (by simp) λa2 c2 e2=>?_;subst e2;refine go ?_;intro b2 b3;iterate 16 (all_goals (first
  |(refine ak (qm (d:=d) (r:=⟨rn,gQ,1,rf,bZ,cz,rs,gT,gU,gV,gW,gX⟩) (vh:=vh) (vs:=vs) (vr:=vr) (vc:=vc) (vu:=vu) (v1:=.slice a1 bZ.length c1) (v2:=.slice a2 cz.length c2) hcl) (next:=λbb hbb=>?_))
  |(refine ak (o9 (d:=d) (r:=⟨rn,gQ,1,rf,bZ,cz,rs,gT,gU,gV,gW,gX⟩) (vh:=vh) (vs:=vs) (vr:=vr) (vc:=vc) (vu:=vu) (v1:=.slice a1 bZ.length c1) (v2:=.slice a2 cz.length c2) hcl) (next:=λbb hbb=>?_))
  |(refine go ?_;first
   |with_reducible refine aL (λ_=>?_) (λ_=>?_)
   |with_reducible refine aK (λ_=>?_) (λ_=>?_)
   |with_reducible refine aI (λ_=>?_) (λ_=>?_)
   |refine az rfl (λ_=>?_) (λ_=>?_)
   |refine ed rfl (λ_=>?_) (λ_=>?_)
   |refine jJ rfl (λ_=>?_) (λ_=>?_)
   |skip)))
 all_goals (try simp only[dQ]at *)
 all_goals (first
  |(refine aa false (hv:=by rfl) (hp:=⟨(λh=>by cases h),λh=>?_⟩)
    exfalso
    rw[iX rfl rfl (by decide)]at h;obtain⟨⟨q1,q2,q3,q4,q5,q6⟩,h7⟩:=h;dsimp only at q1 q2 q3 q4 q5 q6 h7;first
     |(simp_all;done)
     |(obtain⟨⟨p1,p2,p3⟩,p4,p5,p6⟩:=h7;dsimp only at p1 p2 p3 p4 p5 p6;first|(simp_all;done)|(simp_all;omega)|omega))
  |(refine aa true (hv:=by rfl) (hp:=⟨λ_=>?_,λ_=>rfl⟩)
    rw[iX rfl rfl (by decide)];first
     |(refine⟨⟨?_,?_,?_,?_,?_,?_⟩,⟨?_,?_,?_⟩,?_,?_,?_⟩<;>dsimp only<;>first|(simp_all;done)|(simp_all;omega)|omega)
     |(refine⟨⟨?_,?_,?_,?_,?_,?_⟩,?_⟩<;>first|(simp_all;done)|(simp_all;omega)))
  |(refine aa bb (hv:=by rfl) (hp:=?_)
    rw[iX rfl rfl (by decide)];constructor
    ·intro hb;refine⟨⟨?_,?_,?_,?_,?_,?_⟩,⟨?_,?_,?_⟩,?_,?_,?_⟩<;>dsimp only<;>first|(simp_all;done)|(simp_all;omega)|omega
    ·rintro⟨⟨q1,q2,q3,q4,q5,q6⟩,⟨p1,p2,p3⟩,p4,p5,p6⟩;dsimp only at q1 q2 q3 q4 q5 q6 p1 p2 p3 p4 p5 p6
     simp_all))
theorem ae1{d:bq}{r:bM}{vh vs vr vc vu v1 v2:Value}(hk:r.kind=2)(hcl:d.aF.length<=4096)(h1:r.names.length<9223372036854775808)(h2:r.others.length<9223372036854775808):jd d r vh vs vr vc vu v1 v2:=by
 obtain⟨rn,gQ,rk,rf,bZ,cz,rs,gT,gU,gV,gW,gX⟩:=r;dsimp only at hk h1 h2;subst hk;dsimp only[jd];rw[show gz 2=⟨true,true,false,true,false,true,true,0⟩from by rfl];refine aG oh pg λB w0=>?_;refine aT (E:=aN) (v:=v1) (xs:=bZ) (by simp) λa1 c1 e1=>?_;subst e1;refine aT (E:=aN) (v:=v2) (xs:=cz) (by simp) λa2 c2 e2=>?_;subst e2;refine go ?_;intro b2 b3;iterate 16 (all_goals (first
  |(refine ak (qm (d:=d) (r:=⟨rn,gQ,2,rf,bZ,cz,rs,gT,gU,gV,gW,gX⟩) (vh:=vh) (vs:=vs) (vr:=vr) (vc:=vc) (vu:=vu) (v1:=.slice a1 bZ.length c1) (v2:=.slice a2 cz.length c2) hcl) (next:=λbb hbb=>?_))
  |(refine ak (o9 (d:=d) (r:=⟨rn,gQ,2,rf,bZ,cz,rs,gT,gU,gV,gW,gX⟩) (vh:=vh) (vs:=vs) (vr:=vr) (vc:=vc) (vu:=vu) (v1:=.slice a1 bZ.length c1) (v2:=.slice a2 cz.length c2) hcl) (next:=λbb hbb=>?_))
  |(refine go ?_;first
   |with_reducible refine aL (λ_=>?_) (λ_=>?_)
   |with_reducible refine aK (λ_=>?_) (λ_=>?_)
   |with_reducible refine aI (λ_=>?_) (λ_=>?_)
   |refine az rfl (λ_=>?_) (λ_=>?_)
   |refine ed rfl (λ_=>?_) (λ_=>?_)
   |refine jJ rfl (λ_=>?_) (λ_=>?_)
   |skip)))
 all_goals (try simp only[dQ]at *)
 all_goals (first
  |(refine aa false (hv:=by rfl) (hp:=⟨(λh=>by cases h),λh=>?_⟩)
    exfalso
    rw[vN rfl rfl rfl rfl]at h;obtain⟨⟨q1,q2,q3,q4,q5,q6⟩,h7⟩:=h;dsimp only at q1 q2 q3 q4 q5 q6 h7;first
     |(simp_all;done)
     |(obtain⟨⟨p1,p2,p3⟩,p4,p5,p6⟩:=h7;dsimp only at p1 p2 p3 p4 p5 p6;first|(simp_all;done)|(simp_all;omega)|omega))
  |(refine aa true (hv:=by rfl) (hp:=⟨λ_=>?_,λ_=>rfl⟩)
    rw[vN rfl rfl rfl rfl];first
     |(refine⟨⟨?_,?_,?_,?_,?_,?_⟩,⟨?_,?_,?_⟩,?_,?_,?_⟩<;>dsimp only<;>first|(simp_all;done)|(simp_all;omega)|omega)
     |(refine⟨⟨?_,?_,?_,?_,?_,?_⟩,?_⟩<;>first|(simp_all;done)|(simp_all;omega)))
  |(refine aa bb (hv:=by rfl) (hp:=?_)
    rw[vN rfl rfl rfl rfl];constructor
    ·intro hb;refine⟨⟨?_,?_,?_,?_,?_,?_⟩,⟨?_,?_,?_⟩,?_,?_,?_⟩<;>dsimp only<;>first|(simp_all;done)|(simp_all;omega)|omega
    ·rintro⟨⟨q1,q2,q3,q4,q5,q6⟩,⟨p1,p2,p3⟩,p4,p5,p6⟩;dsimp only at q1 q2 q3 q4 q5 q6 p1 p2 p3 p4 p5 p6
     simp_all))
theorem ae2{d:bq}{r:bM}{vh vs vr vc vu v1 v2:Value}(hk:r.kind=3)(hcl:d.aF.length<=4096)(h1:r.names.length<9223372036854775808)(h2:r.others.length<9223372036854775808):jd d r vh vs vr vc vu v1 v2:=by
 obtain⟨rn,gQ,rk,rf,bZ,cz,rs,gT,gU,gV,gW,gX⟩:=r;dsimp only at hk h1 h2;subst hk;dsimp only[jd];rw[show gz 3=⟨true,false,false,true,false,true,true,0⟩from by rfl];refine aG oh pg λB w0=>?_;refine aT (E:=aN) (v:=v1) (xs:=bZ) (by simp) λa1 c1 e1=>?_;subst e1;refine aT (E:=aN) (v:=v2) (xs:=cz) (by simp) λa2 c2 e2=>?_;subst e2;refine go ?_;intro b2 b3;iterate 16 (all_goals (first
  |(refine ak (qm (d:=d) (r:=⟨rn,gQ,3,rf,bZ,cz,rs,gT,gU,gV,gW,gX⟩) (vh:=vh) (vs:=vs) (vr:=vr) (vc:=vc) (vu:=vu) (v1:=.slice a1 bZ.length c1) (v2:=.slice a2 cz.length c2) hcl) (next:=λbb hbb=>?_))
  |(refine ak (o9 (d:=d) (r:=⟨rn,gQ,3,rf,bZ,cz,rs,gT,gU,gV,gW,gX⟩) (vh:=vh) (vs:=vs) (vr:=vr) (vc:=vc) (vu:=vu) (v1:=.slice a1 bZ.length c1) (v2:=.slice a2 cz.length c2) hcl) (next:=λbb hbb=>?_))
  |(refine go ?_;first
   |with_reducible refine aL (λ_=>?_) (λ_=>?_)
   |with_reducible refine aK (λ_=>?_) (λ_=>?_)
   |with_reducible refine aI (λ_=>?_) (λ_=>?_)
   |refine az rfl (λ_=>?_) (λ_=>?_)
   |refine ed rfl (λ_=>?_) (λ_=>?_)
   |refine jJ rfl (λ_=>?_) (λ_=>?_)
   |skip)))
 all_goals (try simp only[dQ]at *)
 all_goals (first
  |(refine aa false (hv:=by rfl) (hp:=⟨(λh=>by cases h),λh=>?_⟩)
    exfalso
    rw[vN rfl rfl rfl rfl]at h;obtain⟨⟨q1,q2,q3,q4,q5,q6⟩,h7⟩:=h;dsimp only at q1 q2 q3 q4 q5 q6 h7;first
     |(simp_all;done)
     |(obtain⟨⟨p1,p2,p3⟩,p4,p5,p6⟩:=h7;dsimp only at p1 p2 p3 p4 p5 p6;first|(simp_all;done)|(simp_all;omega)|omega))
  |(refine aa true (hv:=by rfl) (hp:=⟨λ_=>?_,λ_=>rfl⟩)
    rw[vN rfl rfl rfl rfl];first
     |(refine⟨⟨?_,?_,?_,?_,?_,?_⟩,⟨?_,?_,?_⟩,?_,?_,?_⟩<;>dsimp only<;>first|(simp_all;done)|(simp_all;omega)|omega)
     |(refine⟨⟨?_,?_,?_,?_,?_,?_⟩,?_⟩<;>first|(simp_all;done)|(simp_all;omega)))
  |(refine aa bb (hv:=by rfl) (hp:=?_)
    rw[vN rfl rfl rfl rfl];constructor
    ·intro hb;refine⟨⟨?_,?_,?_,?_,?_,?_⟩,⟨?_,?_,?_⟩,?_,?_,?_⟩<;>dsimp only<;>first|(simp_all;done)|(simp_all;omega)|omega
    ·rintro⟨⟨q1,q2,q3,q4,q5,q6⟩,⟨p1,p2,p3⟩,p4,p5,p6⟩;dsimp only at q1 q2 q3 q4 q5 q6 p1 p2 p3 p4 p5 p6
     simp_all))
theorem ae3{d:bq}{r:bM}{vh vs vr vc vu v1 v2:Value}(hk:r.kind=4)(hcl:d.aF.length<=4096)(h1:r.names.length<9223372036854775808)(h2:r.others.length<9223372036854775808):jd d r vh vs vr vc vu v1 v2:=by
 obtain⟨rn,gQ,rk,rf,bZ,cz,rs,gT,gU,gV,gW,gX⟩:=r;dsimp only at hk h1 h2;subst hk;dsimp only[jd];rw[show gz 4=⟨true,false,false,false,false,true,true,0⟩from by rfl];refine aG oh pg λB w0=>?_;refine aT (E:=aN) (v:=v1) (xs:=bZ) (by simp) λa1 c1 e1=>?_;subst e1;refine aT (E:=aN) (v:=v2) (xs:=cz) (by simp) λa2 c2 e2=>?_;subst e2;refine go ?_;intro b2 b3;iterate 16 (all_goals (first
  |(refine ak (qm (d:=d) (r:=⟨rn,gQ,4,rf,bZ,cz,rs,gT,gU,gV,gW,gX⟩) (vh:=vh) (vs:=vs) (vr:=vr) (vc:=vc) (vu:=vu) (v1:=.slice a1 bZ.length c1) (v2:=.slice a2 cz.length c2) hcl) (next:=λbb hbb=>?_))
  |(refine ak (o9 (d:=d) (r:=⟨rn,gQ,4,rf,bZ,cz,rs,gT,gU,gV,gW,gX⟩) (vh:=vh) (vs:=vs) (vr:=vr) (vc:=vc) (vu:=vu) (v1:=.slice a1 bZ.length c1) (v2:=.slice a2 cz.length c2) hcl) (next:=λbb hbb=>?_))
  |(refine go ?_;first
   |with_reducible refine aL (λ_=>?_) (λ_=>?_)
   |with_reducible refine aK (λ_=>?_) (λ_=>?_)
   |with_reducible refine aI (λ_=>?_) (λ_=>?_)
   |refine az rfl (λ_=>?_) (λ_=>?_)
   |refine ed rfl (λ_=>?_) (λ_=>?_)
   |refine jJ rfl (λ_=>?_) (λ_=>?_)
   |skip)))
 all_goals (try simp only[dQ]at *)
 all_goals (first
  |(refine aa false (hv:=by rfl) (hp:=⟨(λh=>by cases h),λh=>?_⟩)
    exfalso
    rw[iX rfl rfl (by decide)]at h;obtain⟨⟨q1,q2,q3,q4,q5,q6⟩,h7⟩:=h;dsimp only at q1 q2 q3 q4 q5 q6 h7;first
     |(simp_all;done)
     |(obtain⟨⟨p1,p2,p3⟩,p4,p5,p6⟩:=h7;dsimp only at p1 p2 p3 p4 p5 p6;first|(simp_all;done)|(simp_all;omega)|omega))
  |(refine aa true (hv:=by rfl) (hp:=⟨λ_=>?_,λ_=>rfl⟩)
    rw[iX rfl rfl (by decide)];first
     |(refine⟨⟨?_,?_,?_,?_,?_,?_⟩,⟨?_,?_,?_⟩,?_,?_,?_⟩<;>dsimp only<;>first|(simp_all;done)|(simp_all;omega)|omega)
     |(refine⟨⟨?_,?_,?_,?_,?_,?_⟩,?_⟩<;>first|(simp_all;done)|(simp_all;omega)))
  |(refine aa bb (hv:=by rfl) (hp:=?_)
    rw[iX rfl rfl (by decide)];constructor
    ·intro hb;refine⟨⟨?_,?_,?_,?_,?_,?_⟩,⟨?_,?_,?_⟩,?_,?_,?_⟩<;>dsimp only<;>first|(simp_all;done)|(simp_all;omega)|omega
    ·rintro⟨⟨q1,q2,q3,q4,q5,q6⟩,⟨p1,p2,p3⟩,p4,p5,p6⟩;dsimp only at q1 q2 q3 q4 q5 q6 p1 p2 p3 p4 p5 p6
     simp_all))
theorem ae4{d:bq}{r:bM}{vh vs vr vc vu v1 v2:Value}(hk:r.kind=5)(hcl:d.aF.length<=4096)(h1:r.names.length<9223372036854775808)(h2:r.others.length<9223372036854775808):jd d r vh vs vr vc vu v1 v2:=by
 obtain⟨rn,gQ,rk,rf,bZ,cz,rs,gT,gU,gV,gW,gX⟩:=r;dsimp only at hk h1 h2;subst hk;dsimp only[jd];rw[show gz 5=⟨true,true,false,false,false,true,true,3⟩from by rfl];refine aG oh pg λB w0=>?_;refine aT (E:=aN) (v:=v1) (xs:=bZ) (by simp) λa1 c1 e1=>?_;subst e1;refine aT (E:=aN) (v:=v2) (xs:=cz) (by simp) λa2 c2 e2=>?_;subst e2;refine go ?_;intro b2 b3;iterate 16 (all_goals (first
  |(refine ak (qm (d:=d) (r:=⟨rn,gQ,5,rf,bZ,cz,rs,gT,gU,gV,gW,gX⟩) (vh:=vh) (vs:=vs) (vr:=vr) (vc:=vc) (vu:=vu) (v1:=.slice a1 bZ.length c1) (v2:=.slice a2 cz.length c2) hcl) (next:=λbb hbb=>?_))
  |(refine ak (o9 (d:=d) (r:=⟨rn,gQ,5,rf,bZ,cz,rs,gT,gU,gV,gW,gX⟩) (vh:=vh) (vs:=vs) (vr:=vr) (vc:=vc) (vu:=vu) (v1:=.slice a1 bZ.length c1) (v2:=.slice a2 cz.length c2) hcl) (next:=λbb hbb=>?_))
  |(refine go ?_;first
   |with_reducible refine aL (λ_=>?_) (λ_=>?_)
   |with_reducible refine aK (λ_=>?_) (λ_=>?_)
   |with_reducible refine aI (λ_=>?_) (λ_=>?_)
   |refine az rfl (λ_=>?_) (λ_=>?_)
   |refine ed rfl (λ_=>?_) (λ_=>?_)
   |refine jJ rfl (λ_=>?_) (λ_=>?_)
   |skip)))
 all_goals (try simp only[dQ]at *)
 all_goals (first
  |(refine aa false (hv:=by rfl) (hp:=⟨(λh=>by cases h),λh=>?_⟩)
    exfalso
    rw[iX rfl rfl (by decide)]at h;obtain⟨⟨q1,q2,q3,q4,q5,q6⟩,h7⟩:=h;dsimp only at q1 q2 q3 q4 q5 q6 h7;first
     |(simp_all;done)
     |(obtain⟨⟨p1,p2,p3⟩,p4,p5,p6⟩:=h7;dsimp only at p1 p2 p3 p4 p5 p6;first|(simp_all;done)|(simp_all;omega)|omega))
  |(refine aa true (hv:=by rfl) (hp:=⟨λ_=>?_,λ_=>rfl⟩)
    rw[iX rfl rfl (by decide)];first
     |(refine⟨⟨?_,?_,?_,?_,?_,?_⟩,⟨?_,?_,?_⟩,?_,?_,?_⟩<;>dsimp only<;>first|(simp_all;done)|(simp_all;omega)|omega)
     |(refine⟨⟨?_,?_,?_,?_,?_,?_⟩,?_⟩<;>first|(simp_all;done)|(simp_all;omega)))
  |(refine aa bb (hv:=by rfl) (hp:=?_)
    rw[iX rfl rfl (by decide)];constructor
    ·intro hb;refine⟨⟨?_,?_,?_,?_,?_,?_⟩,⟨?_,?_,?_⟩,?_,?_,?_⟩<;>dsimp only<;>first|(simp_all;done)|(simp_all;omega)|omega
    ·rintro⟨⟨q1,q2,q3,q4,q5,q6⟩,⟨p1,p2,p3⟩,p4,p5,p6⟩;dsimp only at q1 q2 q3 q4 q5 q6 p1 p2 p3 p4 p5 p6
     simp_all))
theorem ae5{d:bq}{r:bM}{vh vs vr vc vu v1 v2:Value}(hk:r.kind=6)(hcl:d.aF.length<=4096)(h1:r.names.length<9223372036854775808)(h2:r.others.length<9223372036854775808):jd d r vh vs vr vc vu v1 v2:=by
 obtain⟨rn,gQ,rk,rf,bZ,cz,rs,gT,gU,gV,gW,gX⟩:=r;dsimp only at hk h1 h2;subst hk;dsimp only[jd];rw[show gz 6=⟨false,false,false,false,false,true,true,0⟩from by rfl];refine aG oh pg λB w0=>?_;refine aT (E:=aN) (v:=v1) (xs:=bZ) (by simp) λa1 c1 e1=>?_;subst e1;refine aT (E:=aN) (v:=v2) (xs:=cz) (by simp) λa2 c2 e2=>?_;subst e2;refine go ?_;intro b2 b3;iterate 16 (all_goals (first
  |(refine ak (qm (d:=d) (r:=⟨rn,gQ,6,rf,bZ,cz,rs,gT,gU,gV,gW,gX⟩) (vh:=vh) (vs:=vs) (vr:=vr) (vc:=vc) (vu:=vu) (v1:=.slice a1 bZ.length c1) (v2:=.slice a2 cz.length c2) hcl) (next:=λbb hbb=>?_))
  |(refine ak (o9 (d:=d) (r:=⟨rn,gQ,6,rf,bZ,cz,rs,gT,gU,gV,gW,gX⟩) (vh:=vh) (vs:=vs) (vr:=vr) (vc:=vc) (vu:=vu) (v1:=.slice a1 bZ.length c1) (v2:=.slice a2 cz.length c2) hcl) (next:=λbb hbb=>?_))
  |(refine go ?_;first
   |with_reducible refine aL (λ_=>?_) (λ_=>?_)
   |with_reducible refine aK (λ_=>?_) (λ_=>?_)
   |with_reducible refine aI (λ_=>?_) (λ_=>?_)
   |refine az rfl (λ_=>?_) (λ_=>?_)
   |refine ed rfl (λ_=>?_) (λ_=>?_)
   |refine jJ rfl (λ_=>?_) (λ_=>?_)
   |skip)))
 all_goals (try simp only[dQ]at *)
 all_goals (first
  |(refine aa false (hv:=by rfl) (hp:=⟨(λh=>by cases h),λh=>?_⟩)
    exfalso
    rw[iX rfl rfl (by decide)]at h;obtain⟨⟨q1,q2,q3,q4,q5,q6⟩,h7⟩:=h;dsimp only at q1 q2 q3 q4 q5 q6 h7;first
     |(simp_all;done)
     |(obtain⟨⟨p1,p2,p3⟩,p4,p5,p6⟩:=h7;dsimp only at p1 p2 p3 p4 p5 p6;first|(simp_all;done)|(simp_all;omega)|omega))
  |(refine aa true (hv:=by rfl) (hp:=⟨λ_=>?_,λ_=>rfl⟩)
    rw[iX rfl rfl (by decide)];first
     |(refine⟨⟨?_,?_,?_,?_,?_,?_⟩,⟨?_,?_,?_⟩,?_,?_,?_⟩<;>dsimp only<;>first|(simp_all;done)|(simp_all;omega)|omega)
     |(refine⟨⟨?_,?_,?_,?_,?_,?_⟩,?_⟩<;>first|(simp_all;done)|(simp_all;omega)))
  |(refine aa bb (hv:=by rfl) (hp:=?_)
    rw[iX rfl rfl (by decide)];constructor
    ·intro hb;refine⟨⟨?_,?_,?_,?_,?_,?_⟩,⟨?_,?_,?_⟩,?_,?_,?_⟩<;>dsimp only<;>first|(simp_all;done)|(simp_all;omega)|omega
    ·rintro⟨⟨q1,q2,q3,q4,q5,q6⟩,⟨p1,p2,p3⟩,p4,p5,p6⟩;dsimp only at q1 q2 q3 q4 q5 q6 p1 p2 p3 p4 p5 p6
     simp_all))
theorem ae6{d:bq}{r:bM}{vh vs vr vc vu v1 v2:Value}(hk:r.kind=7)(hcl:d.aF.length<=4096)(h1:r.names.length<9223372036854775808)(h2:r.others.length<9223372036854775808):jd d r vh vs vr vc vu v1 v2:=by
 obtain⟨rn,gQ,rk,rf,bZ,cz,rs,gT,gU,gV,gW,gX⟩:=r;dsimp only at hk h1 h2;subst hk;dsimp only[jd];rw[show gz 7=⟨false,false,false,false,true,true,true,0⟩from by rfl];refine aG oh pg λB w0=>?_;refine aT (E:=aN) (v:=v1) (xs:=bZ) (by simp) λa1 c1 e1=>?_;subst e1;refine aT (E:=aN) (v:=v2) (xs:=cz) (by simp) λa2 c2 e2=>?_;subst e2;refine go ?_;intro b2 b3;iterate 16 (all_goals (first
  |(refine ak (qm (d:=d) (r:=⟨rn,gQ,7,rf,bZ,cz,rs,gT,gU,gV,gW,gX⟩) (vh:=vh) (vs:=vs) (vr:=vr) (vc:=vc) (vu:=vu) (v1:=.slice a1 bZ.length c1) (v2:=.slice a2 cz.length c2) hcl) (next:=λbb hbb=>?_))
  |(refine ak (o9 (d:=d) (r:=⟨rn,gQ,7,rf,bZ,cz,rs,gT,gU,gV,gW,gX⟩) (vh:=vh) (vs:=vs) (vr:=vr) (vc:=vc) (vu:=vu) (v1:=.slice a1 bZ.length c1) (v2:=.slice a2 cz.length c2) hcl) (next:=λbb hbb=>?_))
  |(refine go ?_;first
   |with_reducible refine aL (λ_=>?_) (λ_=>?_)
   |with_reducible refine aK (λ_=>?_) (λ_=>?_)
   |with_reducible refine aI (λ_=>?_) (λ_=>?_)
   |refine az rfl (λ_=>?_) (λ_=>?_)
   |refine ed rfl (λ_=>?_) (λ_=>?_)
   |refine jJ rfl (λ_=>?_) (λ_=>?_)
   |skip)))
 all_goals (try simp only[dQ]at *)
 all_goals (first
  |(refine aa false (hv:=by rfl) (hp:=⟨(λh=>by cases h),λh=>?_⟩)
    exfalso
    rw[iX rfl rfl (by decide)]at h;obtain⟨⟨q1,q2,q3,q4,q5,q6⟩,h7⟩:=h;dsimp only at q1 q2 q3 q4 q5 q6 h7;first
     |(simp_all;done)
     |(obtain⟨⟨p1,p2,p3⟩,p4,p5,p6⟩:=h7;dsimp only at p1 p2 p3 p4 p5 p6;first|(simp_all;done)|(simp_all;omega)|omega))
  |(refine aa true (hv:=by rfl) (hp:=⟨λ_=>?_,λ_=>rfl⟩)
    rw[iX rfl rfl (by decide)];first
     |(refine⟨⟨?_,?_,?_,?_,?_,?_⟩,⟨?_,?_,?_⟩,?_,?_,?_⟩<;>dsimp only<;>first|(simp_all;done)|(simp_all;omega)|omega)
     |(refine⟨⟨?_,?_,?_,?_,?_,?_⟩,?_⟩<;>first|(simp_all;done)|(simp_all;omega)))
  |(refine aa bb (hv:=by rfl) (hp:=?_)
    rw[iX rfl rfl (by decide)];constructor
    ·intro hb;refine⟨⟨?_,?_,?_,?_,?_,?_⟩,⟨?_,?_,?_⟩,?_,?_,?_⟩<;>dsimp only<;>first|(simp_all;done)|(simp_all;omega)|omega
    ·rintro⟨⟨q1,q2,q3,q4,q5,q6⟩,⟨p1,p2,p3⟩,p4,p5,p6⟩;dsimp only at q1 q2 q3 q4 q5 q6 p1 p2 p3 p4 p5 p6
     simp_all))
