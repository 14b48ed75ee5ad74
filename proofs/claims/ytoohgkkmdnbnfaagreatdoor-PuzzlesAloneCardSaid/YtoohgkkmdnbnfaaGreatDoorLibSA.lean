/-
  The reference's types: regions, clues, bounds; rules that can be read.
-/
import Derived.Test.YtoohgkkmdnbnfaaGreatDoorLibPA
import Derived.Test.YtoohgkkmdnbnfaaGreatDoorLibQA
import Derived.Test.YtoohgkkmdnbnfaaGreatDoorLibJA
set_option linter.all false
set_option maxRecDepth 10000
set_option maxHeartbeats 4000000
namespace Go.Proofs.YtoohgkkmdnbnfaaGreatDoor
open Go.Ideal Kd
abbrev yQ(a b:List Int):Prop:=(∀x∈a,x∈b)/\∀x∈b,x∈a
theorem ahl{va vb:Value}{xs ys:List Int}(hx:xs.length<9223372036854775808)(hy:ys.length<9223372036854775808):dz Tryz.prog 175 [va,vb] [ah aa va xs,ah aa vb ys] (.bool (decide (yQ xs ys))):=by
 refine aK _ (aP 175) λB w0=>?_;refine aS (E:=aa) (v:=va) (xs:=xs) (by simp) λa1 c1 e1=>?_;subst e1;refine aS (E:=aa) (v:=vb) (xs:=ys) (by simp) λa2 c2 e2=>?_;subst e2;refine go ?_;refine aZ (λk=>xs.length - k) (λk:Nat=>[(5,.int .i64 (k:Int))]) (λ_=>[]) (λ_=>[]) (λk=>k<=xs.length/\∀x∈xs.take k,x∈ys) 0 ⟨by omega,by simp⟩ (body:=?_);rintro k ⟨hk,hall⟩;refine go ?_;refine aA rfl (λh1=>?_) (λh1=>?_)
 ·refine go ?_;intro _ _ x hx;refine go ?_;refine ax (Ji (xs:=ys) (z:=x) (by omega)) (next:=λ_ _=>?_);refine go ?_;refine eU rfl (λh2=>?_) (λh2=>?_)
  ·refine go ?_;refine ae () (hv:=?_) (hp:=trivial);rw[aT (λh:yQ xs ys=>h2 (h.1 x (bG hx)))];rfl
  refine go ?_;refine aQ (k+1) (by omega) ⟨by omega,?_⟩;rw[bY hx];intro z hz;rcases dV.1 hz with hz|hz
  ·exact hall z hz
  ·rw[bH.1 hz];exact h2
 have hkl:k=xs.length:=by omega
 subst hkl;rw[bK]at hall;have ahm:=hall;clear hall hk h1;refine go ?_;refine aZ (λk=>ys.length - k) (λk:Nat=>[(6,.int .i64 (k:Int))]) (λ_=>[]) (λ_=>[]) (λk=>k<=ys.length/\∀x∈ys.take k,x∈xs) 0 ⟨by omega,by simp⟩ (body:=?_);rintro k ⟨hk,hall⟩;refine go ?_;refine aA rfl (λh1=>?_) (λh1=>?_)
 ·refine go ?_;intro _ _ x hx;refine go ?_;refine ax (Ji (xs:=xs) (z:=x) (by omega)) (next:=λ_ _=>?_);refine go ?_;refine eU rfl (λh2=>?_) (λh2=>?_)
  ·refine go ?_;refine ae () (hv:=?_) (hp:=trivial);rw[aT (λh:yQ xs ys=>h2 (h.2 x (bG hx)))];rfl
  refine go ?_;refine aQ (k+1) (by omega) ⟨by omega,?_⟩;rw[bY hx];intro z hz;rcases dV.1 hz with hz|hz
  ·exact hall z hz
  ·rw[bH.1 hz];exact h2
 have hkl:k=ys.length:=by omega
 subst hkl;rw[bK]at hall;refine go ?_;refine ae () (hv:=?_) (hp:=trivial);rw[dZ (show yQ xs ys from⟨ahm,hall⟩)];rfl
theorem ahn{g:bA}{ps:List Int}(h:yA g ps):ps.Nodup:=by
 have:=h.nd;unfold List.Nodup at this⊢;rw[Dc]at this;exact this.imp λh e=>h (by rw[e])
theorem Vx{a b:List Int}(ha:a.Nodup)(hb:b.Nodup):yQ a b↔di a=di b:=by
 constructor
 ·rintro⟨h1,h2⟩;exact Td ((List.perm_ext_iff_of_nodup ha hb).2 λx=>⟨h1 x,h2 x⟩)
 ·intro h;exact⟨λx hx=>by rw[<- uL,<- h,uL];exact hx,λx hx=>by rw[<- uL,h,uL];exact hx⟩
theorem aho{ls:List (List Int)}(hn:∀l∈ls,l.Nodup):(ls.map di).Nodup↔∀(i j:Nat) a b,j<i->ls[i]? =some a->ls[j]? =some b->¬yQ a b:=by
 rw[List.nodup_iff_pairwise_ne,Dc,AY];constructor
 ·intro h i j a b hij ha hb hk;obtain⟨hi,rfl⟩:=bO.1 ha;obtain⟨hj,rfl⟩:=bO.1 hb;exact h j i hj hi hij ((Vx (hn _ (wV hi)) (hn _ (wV hj))).1 hk).symm
 ·intro h j i hj hi hij e;exact h i j ls[i] ls[j] hij (cB hi) (cB hj) ((Vx (hn _ (wV hi)) (hn _ (wV hj))).2 e.symm)
theorem ahp{d:bE}{vh vs vr vc vu gh gc:Value}{g:bA}(hS:mq d)(hG:qd g):
 bi Tryz.prog (.func 128) [.agg ⟨gF d vh vs vr vc vu⟩,.agg ⟨iM g gh gc⟩] [] [] (ah eH vr d.regions::jy g gh gc) (λe:Int=>.int .i64 e) (λ_=>[]) (λ_=>[]) (λe=>e=0↔∀r∈d.regions,yK g r):=by
 have hrl:=hS.regs;have hre:=hS.qN;refine aK _ (aP 128) λB w0=>?_;refine aS (E:=eH) (v:=vr) (xs:=d.regions) (by simp) λa1 c1 e1=>?_;subst e1;refine go ?_;intro b2 b3;refine bD (eO (b:=b2)) (h:=?_);refine bD (eO (b:=b3)) (h:=?_);refine go ?_;refine aZ (λk=>d.regions.length - k) (λk:Nat=>[(5,.int .i64 (k:Int))]) (λ_=>[]) (λ_=>[]) (λk=>k<=d.regions.length/\∀r∈d.regions.take k,yK g r) 0 ⟨by omega,by simp⟩ (body:=?_);rintro k ⟨hk,hall⟩;refine go ?_;refine aA rfl (λh1=>?_) (λh1=>?_)
 ·refine go ?_;refine bz eH (xs:=d.regions) (next:=λ_ _ r (vl:Value) hr=>?_);have hrm:=bG hr;have hrx:=hre r hrm;generalize hls:r.lists=ls at hrx;refine aS (E:=aj aa) (v:=vl) (xs:=ls) (by simp) λal cl el=>?_;subst el;refine go ?_;refine ax (Vj (g:=g) (vh:=gh) (vc:=gc) (vr:=.slice al ls.length cl) (rs:=ls) hG hrx.1 hrx.2) (next:=λy hy=>?_);obtain⟨v7,e⟩:=y;dsimp only at hy⊢;refine go ?_;refine aA rfl (λh2=>?_) (λh2=>?_)
  ·refine go ?_;exact ae e (hv:=rfl) (hp:=⟨λh=>absurd h h2,λh=>by exfalso;have:=h r hrm;exact h2 (hy.2 (by rw[<- hls];exact this.1))⟩)
  have he:e=0:=iO.1 h2;obtain⟨hg,hro⟩:=hy.1 he;subst he;clear hy h2;have hnd:∀l∈ls,l.Nodup:=λl hl=>ahn (hro.all l hl);have Vy:=aho hnd;refine go ?_;refine aZ (λi=>ls.length - i) (λi:Nat=>[(9,.int .i64 (i:Int))]) (λ_=>[]) (λ_=>[]) (λi=>i<=ls.length/\∀(i' j:Nat) a b,i'<i->j<i'->ls[i']? =some a->ls[j]? =some b->¬yQ a b) 0 ⟨by omega,λi' j a b h=>by omega⟩ (body:=?_);rintro i ⟨hi,hin⟩;refine go ?_;refine aA rfl (λh3=>?_) (λh3=>?_)
  ·obtain⟨a,ha⟩:∃a,ls[i]? =some a:=⟨ls[i]'(by omega),cB _⟩
   have hal:=hrx.2 a (bG ha);refine go ?_;refine aZ (λj=>i - j) (λj:Nat=>[(10,.int .i64 (j:Int))]) (λ_=>[]) (λ_=>[]) (λj=>j<=i/\∀(j':Nat) b,j'<j->ls[j']? =some b->¬yQ a b) 0 ⟨by omega,λj' b h=>by omega⟩ (body:=?_);rintro j ⟨hj,hjn⟩;refine go ?_;refine aA rfl (λh4=>?_) (λh4=>?_)
   ·refine go ?_;refine bz (aj aa) (xs:=ls) (next:=λ_ _ a' (_:Value) ha'=>?_);cases ha.symm.trans ha';refine go ?_;refine bz (aj aa) (xs:=ls) (next:=λ_ _ b (_:Value) hb=>?_);have hbl:=hrx.2 b (bG hb);refine go ?_;refine ax (ahl (xs:=a) (ys:=b) hal hbl) (next:=λ_ _=>?_);refine go ?_;refine aA rfl (λh5=>?_) (λh5=>?_)
    ·refine go ?_;exact ae 161 (hv:=rfl) (hp:=⟨(λh=>by cases h),λh=>by
      exfalso
      have h6:=(h r hrm).2;rw[hls]at h6;exact Vy.1 h6 i j a b (by omega) ha hb h5⟩)
    refine go ?_;refine aQ (j+1) (by omega) ⟨by omega,λj' b' hj' hb'=>?_⟩;by_cases e:j'=j
    ·subst e;rw[hb]at hb';cases hb';exact h5
    ·exact hjn j' b' (by omega) hb'
   have hji:j=i:=by omega
   subst hji;refine go ?_;refine aQ (j+1) (by omega) ⟨by omega,λi' j' a' b' hi' hj' ha' hb'=>?_⟩;by_cases e:i'=j
   ·subst e;rw[ha]at ha';cases ha';exact hjn j' b' hj' hb'
   ·exact hin i' j' a' b' (by omega) hj' ha' hb'
  have hil:i=ls.length:=by omega
  subst hil;have hR:yK g r:=⟨⟨hg,by rw[hls];exact hro⟩,by rw[hls];exact Vy.2 λi j a b hij ha hb=>hin i j a b (bO.1 ha).1 hij ha hb⟩
  refine go ?_;refine aQ (k+1) (by omega) ⟨by omega,?_⟩;rw[bY hr];intro z hz;rcases dV.1 hz with hz|hz
  ·exact hall z hz
  ·rw[bH.1 hz];exact hR
 have hkl:k=d.regions.length:=by omega
 subst hkl;rw[bK]at hall;refine go ?_;exact ae 0 (hv:=rfl) (hp:=⟨λ_=>hall,λ_=>rfl⟩)
theorem ahq{c:iY}:dz Tryz.prog 177 [.agg ⟨I5 c⟩] [] (.bool (decide (nY c))):=by
 refine aK _ (aP 177) λB w0=>?_;refine go ?_;intro b1;iterate 13 (all_goals (first
  |(refine ae () (hv:=?_) (hp:=trivial);first
   |exact congrArg Value.bool (oJ.2 (by unfold nY;omega))
   |exact congrArg Value.bool (aT (by unfold nY;omega)).symm
   |exact congrArg Value.bool (dZ (by unfold nY;omega)).symm)
  |(refine go ?_;first
   |with_reducible refine aN (λ_=>?_) (λ_=>?_)
   |with_reducible refine aM (λ_=>?_) (λ_=>?_)
   |refine aA rfl (λ_=>?_) (λ_=>?_)
   |skip)))
theorem ahr{r:aU}{v1 v2:Value}:dz Tryz.prog 178 [.agg ⟨iT r v1 v2⟩] [] (.bool (decide (1<=r.kind/\r.kind<=11))):=by
 refine aK _ (aP 178) λB w0=>?_;refine go ?_;intro b1;refine go ?_;first|with_reducible refine aN (λh1=>?_) (λh1=>?_)|with_reducible refine aM (λh1=>?_) (λh1=>?_)|with_reducible refine aL (λh1=>?_) (λh1=>?_)
 ·refine go ?_;refine ae () (hv:=?_) (hp:=trivial);rw[aT (λh=>h1 (by omega))];rfl
 refine go ?_;refine ae () (hv:=?_) (hp:=trivial);exact congrArg Value.bool (oJ.2 (by omega))
theorem ahs(k:Int):(fQ k).read=decide (1<=k/\k<=11):=by
 by_cases h:0<=k/\k<14
 ·have hc:k=0\/k=1\/k=2\/k=3\/k=4\/k=5\/k=6\/k=7\/k=8\/k=9\/k=10\/k=11\/k=12\/k=13:=by omega
  rcases hc with rfl|rfl|rfl|rfl|rfl|rfl|rfl|rfl|rfl|rfl|rfl|rfl|rfl|rfl<;>rfl
 ·rw[Ct (by omega),aT (by omega)]
theorem aht{d:bE}{vh vs vr vc vu:Value}(hl:d.rules.length<=4096):bi Tryz.prog (.func 130) [.agg ⟨gF d vh vs vr vc vu⟩] [] [] [ah aY vu d.rules] (λa:Option Addr=>.slice a (jh d.rules).length (jh d.rules).length) (λ_=>[]) (λ_=>[]) (λ_=>True):=by
 refine aK _ (aP 130) λB w0=>?_;refine aS (E:=aY) (v:=vu) (xs:=d.rules) (by simp) λa1 c1 e1=>?_;subst e1;refine go ?_;intro b1;refine bD (eO (b:=b1)) (h:=?_);refine go ?_;refine gI aa ?_;refine aZ (λy:Nat×Value=>d.rules.length - y.1) (λy=>[(4,.int .i64 (y.1:Int)),(3,y.2)]) (λy=>[ap aa y.2 (jh (d.rules.take y.1))]) (λ_=>[]) (λy=>y.1<=d.rules.length/\(jh (d.rules.take y.1)).length<=y.1) (0,.slice none 0 0) ⟨cz _,bJ _⟩ (hk:=by repeat (first|exact aI.nil|(apply aI.cons;(focus (repeat (first|exact ay.here|apply ay.there)))))) (body:=?_);rintro⟨k,v3⟩ ⟨hk,hkl⟩;dsimp only at hk hkl⊢;refine go ?_;refine aA rfl (λh1=>?_) (λh1=>?_)
 ·refine go ?_;refine bz aY (xs:=d.rules) (next:=λ_ _ x (vx:Value×Value) hx=>?_);have Aw:=UT hx;rw[ahs]at Aw;refine go ?_;refine ax (ahr (r:=x) (v1:=vx.1) (v2:=vx.2)) (next:=λ_ _=>?_);refine go ?_;refine eU rfl (λh2=>?_) (λh2=>?_)
  ·rw[if_neg (by rw[aT h2];simp)]at Aw;refine go ?_;intro b21;refine go ?_;refine fC aa (xs:=jh (d.rules.take k)) (k:Int) () (by omega) (next:=λad=>?_);rw[<- Aw];refine go ?_;refine aQ (k+1,.slice ad ((jh (d.rules.take k)).length+1) ((jh (d.rules.take k)).length+1)) (by show d.rules.length - (k+1)<d.rules.length - k;omega) ⟨by show k+1<=_;omega,?_⟩;show(jh (d.rules.take (k+1))).length<=k+1;rw[Aw,fA,uY];omega
  ·rw[if_pos (dZ h2),gy]at Aw;rw[<- Aw];refine go ?_;refine aQ (k+1,v3) (by show d.rules.length - (k+1)<d.rules.length - k;omega) ⟨by show k+1<=_;omega,?_⟩;show(jh (d.rules.take (k+1))).length<=k+1;rw[Aw];omega
 have hke:k=d.rules.length:=by omega
 subst hke;rw[bK];refine o9 (E:=aa) (v:=v3) (xs:=jh d.rules) λa3 e3=>?_;subst e3;refine go ?_;exact ae a3 (hv:=rfl) (hp:=trivial)
def Jq(cs:List iY)(r:aU)(kind:Int)(on:Bool):Prop:=0<=r.aG/\r.aG<cs.length/\∃c,cs[r.aG.toNat]? =some c/\c.type=kind/\(on=false\/c.family=r.family)
theorem qj{d:bE}{r:aU}{kind:Int}{on:Bool}{vh vs vr vc vu v1 v2:Value}(hcl:d.aJ.length<=4096):
 bi Tryz.prog (.func 242) [.agg ⟨gF d vh vs vr vc vu⟩,.agg ⟨iT r v1 v2⟩,.int .i64 kind,.bool on] [] [] [ah bM vc d.aJ] (λb:Bool=>.bool b) (λ_=>[]) (λ_=>[]) (λb=>b=true↔Jq d.aJ r kind on):=by
 refine aK _ (aP 242) λB w0=>?_;refine aS (E:=bM) (v:=vc) (xs:=d.aJ) (by simp) λa1 c1 e1=>?_;subst e1;refine go ?_;intro b4 b5;refine go ?_;first|with_reducible refine aN (λh1=>?_) (λh1=>?_)|with_reducible refine aM (λh1=>?_) (λh1=>?_)|with_reducible refine aL (λh1=>?_) (λh1=>?_)
 rotate_left
 ·refine go ?_;exact ae false (hv:=rfl) (hp:=⟨(λh=>by cases h),λh=>by exfalso;have:=h.1;omega⟩)
 refine go ?_;refine aA rfl (λh2=>?_) (λh2=>?_)
 ·refine go ?_;exact ae false (hv:=rfl) (hp:=⟨(λh=>by cases h),λh=>by exfalso;have:=h.2.1;omega⟩)
 obtain⟨k,hk⟩:=sG (show 0<=r.aG by omega);refine go ?_;rw[hk];refine bz bM (xs:=d.aJ) (next:=λ_ _ c (_:Unit) hc=>?_);have hc':d.aJ[r.aG.toNat]? =some c:=by rw[hk];exact hc
 have Cj:∀c',d.aJ[r.aG.toNat]? =some c'->c'=c:=λc' h=>by rw[hc']at h;exact(Option.some.inj h).symm
 refine go ?_;intro b9;refine go ?_;first|with_reducible refine aN (λh3=>?_) (λh3=>?_)|with_reducible refine aM (λh3=>?_) (λh3=>?_)|with_reducible refine aL (λh3=>?_) (λh3=>?_)
 ·refine go ?_;exact ae false (hv:=rfl) (hp:=⟨(λh=>by cases h),λh=>by
   exfalso
   obtain⟨_,_,c',p1,p2,_⟩:=h;rw[Cj c' p1]at p2;exact h3 p2⟩)
 cases on with
 |false=>
  refine go ?_;exact ae true (hv:=rfl) (hp:=⟨λ_=>⟨by omega,by omega,c,hc',h3,.inl rfl⟩,λ_=>rfl⟩)
 |true=>
  refine go ?_;refine ae (decide (c.family=r.family)) (hv:=rfl) (hp:=⟨λh=>⟨by omega,by omega,c,hc',h3,.inr (gY h)⟩,λh=>?_⟩);obtain⟨_,_,c',p1,p2,p3⟩:=h;rw[Cj c' p1]at p3;exact dZ (p3.resolve_left (by simp))
def Vz(cs:List iY)(r:aU):Prop:=(1<=r.op/\r.op<=3)/\((r.bZ=kH/\(0<=r.n/\r.n<=65536)/\r.aG= -1)\/(r.bZ≠kH/\r.n=0/\Jq cs r 2 true))
theorem qX{d:bE}{r:aU}{vh vs vr vc vu v1 v2:Value}(hcl:d.aJ.length<=4096):
 bi Tryz.prog (.func 241) [.agg ⟨gF d vh vs vr vc vu⟩,.agg ⟨iT r v1 v2⟩] [] [] [ah bM vc d.aJ] (λb:Bool=>.bool b) (λ_=>[]) (λ_=>[]) (λb=>b=true↔Vz d.aJ r):=by
 refine aK _ (aP 241) λB w0=>?_;refine go ?_;intro b2 b3;refine go ?_;first|with_reducible refine aN (λh1=>?_) (λh1=>?_)|with_reducible refine aM (λh1=>?_) (λh1=>?_)|with_reducible refine aL (λh1=>?_) (λh1=>?_)
 rotate_left
 ·refine go ?_;exact ae false (hv:=rfl) (hp:=⟨(λh=>by cases h),λh=>by exfalso;have:=h.1;omega⟩)
 refine go ?_;refine aA rfl (λh2=>?_) (λh2=>?_)
 ·refine go ?_;exact ae false (hv:=rfl) (hp:=⟨(λh=>by cases h),λh=>by exfalso;have:=h.1;omega⟩)
 refine go ?_;refine j6 rfl (λh3=>?_) (λh3=>?_)
 ·rw[dY]at h3;have h3:r.bZ=kH:=gY h3;refine go ?_;first|with_reducible refine aN (λh4=>?_) (λh4=>?_)|with_reducible refine aM (λh4=>?_) (λh4=>?_)|with_reducible refine aL (λh4=>?_) (λh4=>?_)
  ·refine go ?_;exact ae false (hv:=rfl) (hp:=⟨(λh=>by cases h),λh=>by
    exfalso
    rcases h.2 with⟨_,q,_⟩|⟨q,_⟩
    ·omega
    ·exact q h3⟩)
  refine go ?_;first|with_reducible refine aN (λh5=>?_) (λh5=>?_)|with_reducible refine aM (λh5=>?_) (λh5=>?_)|with_reducible refine aL (λh5=>?_) (λh5=>?_)
  ·refine go ?_;exact ae false (hv:=rfl) (hp:=⟨(λh=>by cases h),λh=>by
    exfalso
    rcases h.2 with⟨_,q,_⟩|⟨q,_⟩
    ·omega
    ·exact q h3⟩)
  refine go ?_;exact ae (decide (r.aG= -1)) (hv:=rfl) (hp:=⟨λh=>⟨⟨by omega,by omega⟩,.inl ⟨h3,⟨by omega,by omega⟩,gY h⟩⟩,λh=>by
   rcases h.2 with⟨_,_,q⟩|⟨q,_⟩
   ·exact dZ q
   ·exact absurd h3 q⟩)
 ·rw[dY]at h3;have h3:¬r.bZ=kH:=mY h3;refine go ?_;first|with_reducible refine aN (λh4=>?_) (λh4=>?_)|with_reducible refine aM (λh4=>?_) (λh4=>?_)|with_reducible refine aL (λh4=>?_) (λh4=>?_)
  ·refine go ?_;exact ae false (hv:=rfl) (hp:=⟨(λh=>by cases h),λh=>by
    exfalso
    rcases h.2 with⟨q,_⟩|⟨_,q,_⟩
    ·exact h3 q
    ·exact h4 q⟩)
  refine go ?_;refine ax (qj (d:=d) (r:=r) (kind:=2) (on:=true) (vh:=vh) (vs:=vs) (vr:=vr) (vc:=vc) (vu:=vu) (v1:=v1) (v2:=v2) hcl) (next:=λb hb=>?_);refine go ?_;exact ae b (hv:=rfl) (hp:=⟨λh=>⟨⟨by omega,by omega⟩,.inr ⟨h3,h4,hb.1 h⟩⟩,λh=>by
   rcases h.2 with⟨q,_⟩|⟨_,_,q⟩
   ·exact absurd q h3
   ·exact hb.2 q⟩)
noncomputable def pg:=sN Tryz.prog 176
theorem ql:kZ Tryz.prog 176=some pg:=by kernel_rfl
abbrev jH(d:bE)(r:aU)(vh vs vr vc vu v1 v2:Value):Prop:=bi Tryz.prog (.func 176) [.agg ⟨gF d vh vs vr vc vu⟩,.agg ⟨iT r v1 v2⟩] [] [] [ah bM vc d.aJ,ah aR v1 r.names,ah aR v2 r.others] (λb:Bool=>.bool b) (λ_=>[]) (λ_=>[]) (λb=>b=true↔qP (fQ r.kind) d.aJ r)
structure VA(x:yJ)(r:aU):Prop where
 on:(x.on=true↔r.on≠kH)
 qa:x.on=true\/r.family=0
 set:(x.set=true↔r.set≠0)
 names:x.set=true\/r.names=[]
 other:(x.other=true↔r.other≠0)
 others:x.other=true\/r.others=[]
structure ahu(x:yJ)(r:aU):Prop where
 op:r.op=0
 n:x.free=true\/r.n=0
 bZ:x.aG≠0\/(r.bZ=kH/\r.aG= -1)
theorem wT{x:yJ}{cs:List iY}{r:aU}(hk:x.known=true)(ho:x.op=true)(hf:x.free=false)(hc:x.aG=0):qP x cs r↔VA x r/\Vz cs r:=by
 constructor
 ·rintro⟨q1,q2,q3,q4,q5,q6,q7,q8,q9,Ak,Al,ku⟩;refine⟨⟨q2,q5,q3,q6,q4,q7⟩,q8.1 ho,?_⟩;by_cases hb:r.bZ=kH
  ·left;rcases ku 0 (by rw[if_neg (λh=>h.2 hb),hc])with⟨_,_,w⟩|⟨w,_⟩
   ·exact⟨hb,Ak,w⟩
   ·exact absurd rfl w
  ·right;rcases ku 2 (by rw[if_pos ⟨ho,hb⟩])with⟨w,_⟩|⟨_,w1,w2,c,w3,w4,w5⟩
   ·cases w
   ·refine⟨hb,?_,w1,w2,c,w3,w4,.inr (w5.resolve_left (by omega))⟩;rcases Al with h|⟨_,h⟩|h
    ·rw[hf]at h;cases h
    ·exact absurd h hb
    ·exact h
 ·rintro⟨⟨q2,q5,q3,q6,q4,q7⟩,p1,p2⟩;refine⟨hk,q2,q3,q4,q5,q6,q7,⟨λ_=>p1,λ_=>ho⟩,.inl ho,?_,?_,λneed hn=>?_⟩
  ·rcases p2 with⟨_,h,_⟩|⟨_,h,_⟩
   ·exact h
   ·omega
  ·rcases p2 with⟨h,_,_⟩|⟨_,h,_⟩
   ·exact .inr (.inl ⟨ho,h⟩)
   ·exact .inr (.inr h)
  ·rcases p2 with⟨h,_,h2⟩|⟨h,_,w1,w2,c,w3,w4,w5⟩
   ·rw[if_neg (λq=>q.2 h),hc]at hn;exact .inl ⟨hn,h,h2⟩
   ·rw[if_pos ⟨ho,h⟩]at hn;exact .inr ⟨by omega,w1,w2,c,w3,by rw[hn];exact w4,.inr (w5.resolve_left (by simp))⟩
theorem jA{x:yJ}{cs:List iY}{r:aU}(hk:x.known=true)(ho:x.op=false)(hc:x.aG=0\/x.aG=1\/x.aG=3):qP x cs r↔VA x r/\ahu x r/\(0<=r.n/\r.n<=65536)/\(x.aG=3->Jq cs r 3 true)/\(x.aG=1->Jq cs r 1 false):=by
 have hne:∀a b:Int,(if x.op=true/\r.bZ≠kH then a else b)=b:=λa b=>if_neg (λh=>by rw[ho]at h;cases h.1);constructor
 ·rintro⟨q1,q2,q3,q4,q5,q6,q7,q8,q9,Ak,Al,ku⟩;have hop:r.op=0:=by rcases q9 with h|h;rw[ho]at h;cases h;exact h
  have ku:=ku x.aG (hne _ _).symm;refine⟨⟨q2,q5,q3,q6,q4,q7⟩,⟨hop,?_,?_⟩,Ak,λh=>?_,λh=>?_⟩
  ·rcases Al with h|⟨h,_⟩|h
   ·exact .inl h
   ·rw[ho]at h;cases h
   ·exact .inr h
  ·rcases ku with⟨_,w⟩|⟨w,_⟩
   ·exact .inr w
   ·exact .inl w
  ·rcases ku with⟨w,_⟩|⟨_,w1,w2,c,w3,w4,w5⟩
   ·omega
   ·exact⟨w1,w2,c,w3,by omega,.inr (w5.resolve_left (by omega))⟩
  ·rcases ku with⟨w,_⟩|⟨_,w1,w2,c,w3,w4,w5⟩
   ·omega
   ·exact⟨w1,w2,c,w3,by omega,.inl rfl⟩
 ·rintro⟨⟨q2,q5,q3,q6,q4,q7⟩,⟨p1,p2,p3⟩,p4,p5,p6⟩;refine⟨hk,q2,q3,q4,q5,q6,q7,⟨(λh=>by rw[ho]at h;cases h),(λh=>by omega)⟩,.inr p1,p4,?_,λneed hn=>?_⟩
  ·rcases p2 with h|h
   ·exact .inl h
   ·exact .inr (.inr h)
  ·rw[hne]at hn;subst hn;rcases hc with h|h|h
   ·exact .inl ⟨h,p3.resolve_left (by omega)⟩
   ·obtain⟨w1,w2,c,w3,w4,w5⟩:=p6 h;exact .inr ⟨by omega,w1,w2,c,w3,by omega,.inl h⟩
   ·obtain⟨w1,w2,c,w3,w4,w5⟩:=p5 h;exact .inr ⟨by omega,w1,w2,c,w3,by omega,.inr (w5.resolve_left (by simp))⟩
theorem ahv{d:bE}{r:aU}{vh vs vr vc vu v1 v2:Value}(hk:r.kind=1)(hcl:d.aJ.length<=4096)(h1:r.names.length<9223372036854775808)(h2:r.others.length<9223372036854775808):jH d r vh vs vr vc vu v1 v2:=by
 obtain⟨rn,iq,rk,rf,dm,dn,rs,iw,iy,iA,iB,iC⟩:=r;dsimp only at hk h1 h2;subst hk;dsimp only[jH];rw[show fQ 1=⟨true,false,false,false,false,true,true,0⟩from by rfl];refine aK pg ql λB w0=>?_;refine aS (E:=aR) (v:=v1) (xs:=dm) (by simp) λa1 c1 e1=>?_;subst e1;refine aS (E:=aR) (v:=v2) (xs:=dn) (by simp) λa2 c2 e2=>?_;subst e2;refine go ?_;intro b2 b3;iterate 16 (all_goals (first
  |(refine ax (qX (d:=d) (r:=⟨rn,iq,1,rf,dm,dn,rs,iw,iy,iA,iB,iC⟩) (vh:=vh) (vs:=vs) (vr:=vr) (vc:=vc) (vu:=vu) (v1:=.slice a1 dm.length c1) (v2:=.slice a2 dn.length c2) hcl) (next:=λbb hbb=>?_))
  |(refine ax (qj (d:=d) (r:=⟨rn,iq,1,rf,dm,dn,rs,iw,iy,iA,iB,iC⟩) (vh:=vh) (vs:=vs) (vr:=vr) (vc:=vc) (vu:=vu) (v1:=.slice a1 dm.length c1) (v2:=.slice a2 dn.length c2) hcl) (next:=λbb hbb=>?_))
  |(refine go ?_;first
   |with_reducible refine aN (λ_=>?_) (λ_=>?_)
   |with_reducible refine aM (λ_=>?_) (λ_=>?_)
   |with_reducible refine aL (λ_=>?_) (λ_=>?_)
   |refine aA rfl (λ_=>?_) (λ_=>?_)
   |refine eU rfl (λ_=>?_) (λ_=>?_)
   |refine j6 rfl (λ_=>?_) (λ_=>?_)
   |skip)))
 all_goals (try simp only[dY]at *)
 all_goals (first
  |(refine ae false (hv:=by rfl) (hp:=⟨(λh=>by cases h),λh=>?_⟩)
    exfalso
    rw[jA rfl rfl (by decide)]at h;obtain⟨⟨q1,q2,q3,q4,q5,q6⟩,h7⟩:=h;dsimp only at q1 q2 q3 q4 q5 q6 h7;first
     |(simp_all;done)
     |(obtain⟨⟨p1,p2,p3⟩,p4,p5,p6⟩:=h7;dsimp only at p1 p2 p3 p4 p5 p6;first|(simp_all;done)|(simp_all;omega)|omega))
  |(refine ae true (hv:=by rfl) (hp:=⟨λ_=>?_,λ_=>rfl⟩)
    rw[jA rfl rfl (by decide)];first
     |(refine⟨⟨?_,?_,?_,?_,?_,?_⟩,⟨?_,?_,?_⟩,?_,?_,?_⟩<;>dsimp only<;>first|(simp_all;done)|(simp_all;omega)|omega)
     |(refine⟨⟨?_,?_,?_,?_,?_,?_⟩,?_⟩<;>first|(simp_all;done)|(simp_all;omega)))
  |(refine ae bb (hv:=by rfl) (hp:=?_)
    rw[jA rfl rfl (by decide)];constructor
    ·intro hb;refine⟨⟨?_,?_,?_,?_,?_,?_⟩,⟨?_,?_,?_⟩,?_,?_,?_⟩<;>dsimp only<;>first|(simp_all;done)|(simp_all;omega)|omega
    ·rintro⟨⟨q1,q2,q3,q4,q5,q6⟩,⟨p1,p2,p3⟩,p4,p5,p6⟩;dsimp only at q1 q2 q3 q4 q5 q6 p1 p2 p3 p4 p5 p6
     simp_all))
theorem ahw{d:bE}{r:aU}{vh vs vr vc vu v1 v2:Value}(hk:r.kind=2)(hcl:d.aJ.length<=4096)(h1:r.names.length<9223372036854775808)(h2:r.others.length<9223372036854775808):jH d r vh vs vr vc vu v1 v2:=by
 obtain⟨rn,iq,rk,rf,dm,dn,rs,iw,iy,iA,iB,iC⟩:=r;dsimp only at hk h1 h2;subst hk;dsimp only[jH];rw[show fQ 2=⟨true,true,false,true,false,true,true,0⟩from by rfl];refine aK pg ql λB w0=>?_;refine aS (E:=aR) (v:=v1) (xs:=dm) (by simp) λa1 c1 e1=>?_;subst e1;refine aS (E:=aR) (v:=v2) (xs:=dn) (by simp) λa2 c2 e2=>?_;subst e2;refine go ?_;intro b2 b3;iterate 16 (all_goals (first
  |(refine ax (qX (d:=d) (r:=⟨rn,iq,2,rf,dm,dn,rs,iw,iy,iA,iB,iC⟩) (vh:=vh) (vs:=vs) (vr:=vr) (vc:=vc) (vu:=vu) (v1:=.slice a1 dm.length c1) (v2:=.slice a2 dn.length c2) hcl) (next:=λbb hbb=>?_))
  |(refine ax (qj (d:=d) (r:=⟨rn,iq,2,rf,dm,dn,rs,iw,iy,iA,iB,iC⟩) (vh:=vh) (vs:=vs) (vr:=vr) (vc:=vc) (vu:=vu) (v1:=.slice a1 dm.length c1) (v2:=.slice a2 dn.length c2) hcl) (next:=λbb hbb=>?_))
  |(refine go ?_;first
   |with_reducible refine aN (λ_=>?_) (λ_=>?_)
   |with_reducible refine aM (λ_=>?_) (λ_=>?_)
   |with_reducible refine aL (λ_=>?_) (λ_=>?_)
   |refine aA rfl (λ_=>?_) (λ_=>?_)
   |refine eU rfl (λ_=>?_) (λ_=>?_)
   |refine j6 rfl (λ_=>?_) (λ_=>?_)
   |skip)))
 all_goals (try simp only[dY]at *)
 all_goals (first
  |(refine ae false (hv:=by rfl) (hp:=⟨(λh=>by cases h),λh=>?_⟩)
    exfalso
    rw[wT rfl rfl rfl rfl]at h;obtain⟨⟨q1,q2,q3,q4,q5,q6⟩,h7⟩:=h;dsimp only at q1 q2 q3 q4 q5 q6 h7;first
     |(simp_all;done)
     |(obtain⟨⟨p1,p2,p3⟩,p4,p5,p6⟩:=h7;dsimp only at p1 p2 p3 p4 p5 p6;first|(simp_all;done)|(simp_all;omega)|omega))
  |(refine ae true (hv:=by rfl) (hp:=⟨λ_=>?_,λ_=>rfl⟩)
    rw[wT rfl rfl rfl rfl];first
     |(refine⟨⟨?_,?_,?_,?_,?_,?_⟩,⟨?_,?_,?_⟩,?_,?_,?_⟩<;>dsimp only<;>first|(simp_all;done)|(simp_all;omega)|omega)
     |(refine⟨⟨?_,?_,?_,?_,?_,?_⟩,?_⟩<;>first|(simp_all;done)|(simp_all;omega)))
  |(refine ae bb (hv:=by rfl) (hp:=?_)
    rw[wT rfl rfl rfl rfl];constructor
    ·intro hb;refine⟨⟨?_,?_,?_,?_,?_,?_⟩,⟨?_,?_,?_⟩,?_,?_,?_⟩<;>dsimp only<;>first|(simp_all;done)|(simp_all;omega)|omega
    ·rintro⟨⟨q1,q2,q3,q4,q5,q6⟩,⟨p1,p2,p3⟩,p4,p5,p6⟩;dsimp only at q1 q2 q3 q4 q5 q6 p1 p2 p3 p4 p5 p6
     simp_all))
theorem ahx{d:bE}{r:aU}{vh vs vr vc vu v1 v2:Value}(hk:r.kind=3)(hcl:d.aJ.length<=4096)(h1:r.names.length<9223372036854775808)(h2:r.others.length<9223372036854775808):jH d r vh vs vr vc vu v1 v2:=by
 obtain⟨rn,iq,rk,rf,dm,dn,rs,iw,iy,iA,iB,iC⟩:=r;dsimp only at hk h1 h2;subst hk;dsimp only[jH];rw[show fQ 3=⟨true,false,false,true,false,true,true,0⟩from by rfl];refine aK pg ql λB w0=>?_;refine aS (E:=aR) (v:=v1) (xs:=dm) (by simp) λa1 c1 e1=>?_;subst e1;refine aS (E:=aR) (v:=v2) (xs:=dn) (by simp) λa2 c2 e2=>?_;subst e2;refine go ?_;intro b2 b3;iterate 16 (all_goals (first
  |(refine ax (qX (d:=d) (r:=⟨rn,iq,3,rf,dm,dn,rs,iw,iy,iA,iB,iC⟩) (vh:=vh) (vs:=vs) (vr:=vr) (vc:=vc) (vu:=vu) (v1:=.slice a1 dm.length c1) (v2:=.slice a2 dn.length c2) hcl) (next:=λbb hbb=>?_))
  |(refine ax (qj (d:=d) (r:=⟨rn,iq,3,rf,dm,dn,rs,iw,iy,iA,iB,iC⟩) (vh:=vh) (vs:=vs) (vr:=vr) (vc:=vc) (vu:=vu) (v1:=.slice a1 dm.length c1) (v2:=.slice a2 dn.length c2) hcl) (next:=λbb hbb=>?_))
  |(refine go ?_;first
   |with_reducible refine aN (λ_=>?_) (λ_=>?_)
   |with_reducible refine aM (λ_=>?_) (λ_=>?_)
   |with_reducible refine aL (λ_=>?_) (λ_=>?_)
   |refine aA rfl (λ_=>?_) (λ_=>?_)
   |refine eU rfl (λ_=>?_) (λ_=>?_)
   |refine j6 rfl (λ_=>?_) (λ_=>?_)
   |skip)))
 all_goals (try simp only[dY]at *)
 all_goals (first
  |(refine ae false (hv:=by rfl) (hp:=⟨(λh=>by cases h),λh=>?_⟩)
    exfalso
    rw[wT rfl rfl rfl rfl]at h;obtain⟨⟨q1,q2,q3,q4,q5,q6⟩,h7⟩:=h;dsimp only at q1 q2 q3 q4 q5 q6 h7;first
     |(simp_all;done)
     |(obtain⟨⟨p1,p2,p3⟩,p4,p5,p6⟩:=h7;dsimp only at p1 p2 p3 p4 p5 p6;first|(simp_all;done)|(simp_all;omega)|omega))
  |(refine ae true (hv:=by rfl) (hp:=⟨λ_=>?_,λ_=>rfl⟩)
    rw[wT rfl rfl rfl rfl];first
     |(refine⟨⟨?_,?_,?_,?_,?_,?_⟩,⟨?_,?_,?_⟩,?_,?_,?_⟩<;>dsimp only<;>first|(simp_all;done)|(simp_all;omega)|omega)
     |(refine⟨⟨?_,?_,?_,?_,?_,?_⟩,?_⟩<;>first|(simp_all;done)|(simp_all;omega)))
  |(refine ae bb (hv:=by rfl) (hp:=?_)
    rw[wT rfl rfl rfl rfl];constructor
    ·intro hb;refine⟨⟨?_,?_,?_,?_,?_,?_⟩,⟨?_,?_,?_⟩,?_,?_,?_⟩<;>dsimp only<;>first|(simp_all;done)|(simp_all;omega)|omega
    ·rintro⟨⟨q1,q2,q3,q4,q5,q6⟩,⟨p1,p2,p3⟩,p4,p5,p6⟩;dsimp only at q1 q2 q3 q4 q5 q6 p1 p2 p3 p4 p5 p6
     simp_all))
theorem ahy{d:bE}{r:aU}{vh vs vr vc vu v1 v2:Value}(hk:r.kind=4)(hcl:d.aJ.length<=4096)(h1:r.names.length<9223372036854775808)(h2:r.others.length<9223372036854775808):jH d r vh vs vr vc vu v1 v2:=by
 obtain⟨rn,iq,rk,rf,dm,dn,rs,iw,iy,iA,iB,iC⟩:=r;dsimp only at hk h1 h2;subst hk;dsimp only[jH];rw[show fQ 4=⟨true,false,false,false,false,true,true,0⟩from by rfl];refine aK pg ql λB w0=>?_;refine aS (E:=aR) (v:=v1) (xs:=dm) (by simp) λa1 c1 e1=>?_;subst e1;refine aS (E:=aR) (v:=v2) (xs:=dn) (by simp) λa2 c2 e2=>?_;subst e2;refine go ?_;intro b2 b3;iterate 16 (all_goals (first
  |(refine ax (qX (d:=d) (r:=⟨rn,iq,4,rf,dm,dn,rs,iw,iy,iA,iB,iC⟩) (vh:=vh) (vs:=vs) (vr:=vr) (vc:=vc) (vu:=vu) (v1:=.slice a1 dm.length c1) (v2:=.slice a2 dn.length c2) hcl) (next:=λbb hbb=>?_))
  |(refine ax (qj (d:=d) (r:=⟨rn,iq,4,rf,dm,dn,rs,iw,iy,iA,iB,iC⟩) (vh:=vh) (vs:=vs) (vr:=vr) (vc:=vc) (vu:=vu) (v1:=.slice a1 dm.length c1) (v2:=.slice a2 dn.length c2) hcl) (next:=λbb hbb=>?_))
  |(refine go ?_;first
   |with_reducible refine aN (λ_=>?_) (λ_=>?_)
   |with_reducible refine aM (λ_=>?_) (λ_=>?_)
   |with_reducible refine aL (λ_=>?_) (λ_=>?_)
   |refine aA rfl (λ_=>?_) (λ_=>?_)
   |refine eU rfl (λ_=>?_) (λ_=>?_)
   |refine j6 rfl (λ_=>?_) (λ_=>?_)
   |skip)))
 all_goals (try simp only[dY]at *)
 all_goals (first
  |(refine ae false (hv:=by rfl) (hp:=⟨(λh=>by cases h),λh=>?_⟩)
    exfalso
    rw[jA rfl rfl (by decide)]at h;obtain⟨⟨q1,q2,q3,q4,q5,q6⟩,h7⟩:=h;dsimp only at q1 q2 q3 q4 q5 q6 h7;first
     |(simp_all;done)
     |(obtain⟨⟨p1,p2,p3⟩,p4,p5,p6⟩:=h7;dsimp only at p1 p2 p3 p4 p5 p6;first|(simp_all;done)|(simp_all;omega)|omega))
  |(refine ae true (hv:=by rfl) (hp:=⟨λ_=>?_,λ_=>rfl⟩)
    rw[jA rfl rfl (by decide)];first
     |(refine⟨⟨?_,?_,?_,?_,?_,?_⟩,⟨?_,?_,?_⟩,?_,?_,?_⟩<;>dsimp only<;>first|(simp_all;done)|(simp_all;omega)|omega)
     |(refine⟨⟨?_,?_,?_,?_,?_,?_⟩,?_⟩<;>first|(simp_all;done)|(simp_all;omega)))
  |(refine ae bb (hv:=by rfl) (hp:=?_)
    rw[jA rfl rfl (by decide)];constructor
    ·intro hb;refine⟨⟨?_,?_,?_,?_,?_,?_⟩,⟨?_,?_,?_⟩,?_,?_,?_⟩<;>dsimp only<;>first|(simp_all;done)|(simp_all;omega)|omega
    ·rintro⟨⟨q1,q2,q3,q4,q5,q6⟩,⟨p1,p2,p3⟩,p4,p5,p6⟩;dsimp only at q1 q2 q3 q4 q5 q6 p1 p2 p3 p4 p5 p6
     simp_all))
theorem ahz{d:bE}{r:aU}{vh vs vr vc vu v1 v2:Value}(hk:r.kind=5)(hcl:d.aJ.length<=4096)(h1:r.names.length<9223372036854775808)(h2:r.others.length<9223372036854775808):jH d r vh vs vr vc vu v1 v2:=by
 obtain⟨rn,iq,rk,rf,dm,dn,rs,iw,iy,iA,iB,iC⟩:=r;dsimp only at hk h1 h2;subst hk;dsimp only[jH];rw[show fQ 5=⟨true,true,false,false,false,true,true,3⟩from by rfl];refine aK pg ql λB w0=>?_;refine aS (E:=aR) (v:=v1) (xs:=dm) (by simp) λa1 c1 e1=>?_;subst e1;refine aS (E:=aR) (v:=v2) (xs:=dn) (by simp) λa2 c2 e2=>?_;subst e2;refine go ?_;intro b2 b3;iterate 16 (all_goals (first
  |(refine ax (qX (d:=d) (r:=⟨rn,iq,5,rf,dm,dn,rs,iw,iy,iA,iB,iC⟩) (vh:=vh) (vs:=vs) (vr:=vr) (vc:=vc) (vu:=vu) (v1:=.slice a1 dm.length c1) (v2:=.slice a2 dn.length c2) hcl) (next:=λbb hbb=>?_))
  |(refine ax (qj (d:=d) (r:=⟨rn,iq,5,rf,dm,dn,rs,iw,iy,iA,iB,iC⟩) (vh:=vh) (vs:=vs) (vr:=vr) (vc:=vc) (vu:=vu) (v1:=.slice a1 dm.length c1) (v2:=.slice a2 dn.length c2) hcl) (next:=λbb hbb=>?_))
  |(refine go ?_;first
   |with_reducible refine aN (λ_=>?_) (λ_=>?_)
   |with_reducible refine aM (λ_=>?_) (λ_=>?_)
   |with_reducible refine aL (λ_=>?_) (λ_=>?_)
   |refine aA rfl (λ_=>?_) (λ_=>?_)
   |refine eU rfl (λ_=>?_) (λ_=>?_)
   |refine j6 rfl (λ_=>?_) (λ_=>?_)
   |skip)))
 all_goals (try simp only[dY]at *)
 all_goals (first
  |(refine ae false (hv:=by rfl) (hp:=⟨(λh=>by cases h),λh=>?_⟩)
    exfalso
    rw[jA rfl rfl (by decide)]at h;obtain⟨⟨q1,q2,q3,q4,q5,q6⟩,h7⟩:=h;dsimp only at q1 q2 q3 q4 q5 q6 h7;first
     |(simp_all;done)
     |(obtain⟨⟨p1,p2,p3⟩,p4,p5,p6⟩:=h7;dsimp only at p1 p2 p3 p4 p5 p6;first|(simp_all;done)|(simp_all;omega)|omega))
  |(refine ae true (hv:=by rfl) (hp:=⟨λ_=>?_,λ_=>rfl⟩)
    rw[jA rfl rfl (by decide)];first
     |(refine⟨⟨?_,?_,?_,?_,?_,?_⟩,⟨?_,?_,?_⟩,?_,?_,?_⟩<;>dsimp only<;>first|(simp_all;done)|(simp_all;omega)|omega)
     |(refine⟨⟨?_,?_,?_,?_,?_,?_⟩,?_⟩<;>first|(simp_all;done)|(simp_all;omega)))
  |(refine ae bb (hv:=by rfl) (hp:=?_)
    rw[jA rfl rfl (by decide)];constructor
    ·intro hb;refine⟨⟨?_,?_,?_,?_,?_,?_⟩,⟨?_,?_,?_⟩,?_,?_,?_⟩<;>dsimp only<;>first|(simp_all;done)|(simp_all;omega)|omega
    ·rintro⟨⟨q1,q2,q3,q4,q5,q6⟩,⟨p1,p2,p3⟩,p4,p5,p6⟩;dsimp only at q1 q2 q3 q4 q5 q6 p1 p2 p3 p4 p5 p6
     simp_all))
theorem ahA{d:bE}{r:aU}{vh vs vr vc vu v1 v2:Value}(hk:r.kind=6)(hcl:d.aJ.length<=4096)(h1:r.names.length<9223372036854775808)(h2:r.others.length<9223372036854775808):jH d r vh vs vr vc vu v1 v2:=by
 obtain⟨rn,iq,rk,rf,dm,dn,rs,iw,iy,iA,iB,iC⟩:=r;dsimp only at hk h1 h2;subst hk;dsimp only[jH];rw[show fQ 6=⟨false,false,false,false,false,true,true,0⟩from by rfl];refine aK pg ql λB w0=>?_;refine aS (E:=aR) (v:=v1) (xs:=dm) (by simp) λa1 c1 e1=>?_;subst e1;refine aS (E:=aR) (v:=v2) (xs:=dn) (by simp) λa2 c2 e2=>?_;subst e2;refine go ?_;intro b2 b3;iterate 16 (all_goals (first
  |(refine ax (qX (d:=d) (r:=⟨rn,iq,6,rf,dm,dn,rs,iw,iy,iA,iB,iC⟩) (vh:=vh) (vs:=vs) (vr:=vr) (vc:=vc) (vu:=vu) (v1:=.slice a1 dm.length c1) (v2:=.slice a2 dn.length c2) hcl) (next:=λbb hbb=>?_))
  |(refine ax (qj (d:=d) (r:=⟨rn,iq,6,rf,dm,dn,rs,iw,iy,iA,iB,iC⟩) (vh:=vh) (vs:=vs) (vr:=vr) (vc:=vc) (vu:=vu) (v1:=.slice a1 dm.length c1) (v2:=.slice a2 dn.length c2) hcl) (next:=λbb hbb=>?_))
  |(refine go ?_;first
   |with_reducible refine aN (λ_=>?_) (λ_=>?_)
   |with_reducible refine aM (λ_=>?_) (λ_=>?_)
   |with_reducible refine aL (λ_=>?_) (λ_=>?_)
   |refine aA rfl (λ_=>?_) (λ_=>?_)
   |refine eU rfl (λ_=>?_) (λ_=>?_)
   |refine j6 rfl (λ_=>?_) (λ_=>?_)
   |skip)))
 all_goals (try simp only[dY]at *)
 all_goals (first
  |(refine ae false (hv:=by rfl) (hp:=⟨(λh=>by cases h),λh=>?_⟩)
    exfalso
    rw[jA rfl rfl (by decide)]at h;obtain⟨⟨q1,q2,q3,q4,q5,q6⟩,h7⟩:=h;dsimp only at q1 q2 q3 q4 q5 q6 h7;first
     |(simp_all;done)
     |(obtain⟨⟨p1,p2,p3⟩,p4,p5,p6⟩:=h7;dsimp only at p1 p2 p3 p4 p5 p6;first|(simp_all;done)|(simp_all;omega)|omega))
  |(refine ae true (hv:=by rfl) (hp:=⟨λ_=>?_,λ_=>rfl⟩)
    rw[jA rfl rfl (by decide)];first
     |(refine⟨⟨?_,?_,?_,?_,?_,?_⟩,⟨?_,?_,?_⟩,?_,?_,?_⟩<;>dsimp only<;>first|(simp_all;done)|(simp_all;omega)|omega)
     |(refine⟨⟨?_,?_,?_,?_,?_,?_⟩,?_⟩<;>first|(simp_all;done)|(simp_all;omega)))
  |(refine ae bb (hv:=by rfl) (hp:=?_)
    rw[jA rfl rfl (by decide)];constructor
    ·intro hb;refine⟨⟨?_,?_,?_,?_,?_,?_⟩,⟨?_,?_,?_⟩,?_,?_,?_⟩<;>dsimp only<;>first|(simp_all;done)|(simp_all;omega)|omega
    ·rintro⟨⟨q1,q2,q3,q4,q5,q6⟩,⟨p1,p2,p3⟩,p4,p5,p6⟩;dsimp only at q1 q2 q3 q4 q5 q6 p1 p2 p3 p4 p5 p6
     simp_all))
theorem ahB{d:bE}{r:aU}{vh vs vr vc vu v1 v2:Value}(hk:r.kind=7)(hcl:d.aJ.length<=4096)(h1:r.names.length<9223372036854775808)(h2:r.others.length<9223372036854775808):jH d r vh vs vr vc vu v1 v2:=by
 obtain⟨rn,iq,rk,rf,dm,dn,rs,iw,iy,iA,iB,iC⟩:=r;dsimp only at hk h1 h2;subst hk;dsimp only[jH];rw[show fQ 7=⟨false,false,false,false,true,true,true,0⟩from by rfl];refine aK pg ql λB w0=>?_;refine aS (E:=aR) (v:=v1) (xs:=dm) (by simp) λa1 c1 e1=>?_;subst e1;refine aS (E:=aR) (v:=v2) (xs:=dn) (by simp) λa2 c2 e2=>?_;subst e2;refine go ?_;intro b2 b3;iterate 16 (all_goals (first
  |(refine ax (qX (d:=d) (r:=⟨rn,iq,7,rf,dm,dn,rs,iw,iy,iA,iB,iC⟩) (vh:=vh) (vs:=vs) (vr:=vr) (vc:=vc) (vu:=vu) (v1:=.slice a1 dm.length c1) (v2:=.slice a2 dn.length c2) hcl) (next:=λbb hbb=>?_))
  |(refine ax (qj (d:=d) (r:=⟨rn,iq,7,rf,dm,dn,rs,iw,iy,iA,iB,iC⟩) (vh:=vh) (vs:=vs) (vr:=vr) (vc:=vc) (vu:=vu) (v1:=.slice a1 dm.length c1) (v2:=.slice a2 dn.length c2) hcl) (next:=λbb hbb=>?_))
  |(refine go ?_;first
   |with_reducible refine aN (λ_=>?_) (λ_=>?_)
   |with_reducible refine aM (λ_=>?_) (λ_=>?_)
   |with_reducible refine aL (λ_=>?_) (λ_=>?_)
   |refine aA rfl (λ_=>?_) (λ_=>?_)
   |refine eU rfl (λ_=>?_) (λ_=>?_)
   |refine j6 rfl (λ_=>?_) (λ_=>?_)
   |skip)))
 all_goals (try simp only[dY]at *)
 all_goals (first
  |(refine ae false (hv:=by rfl) (hp:=⟨(λh=>by cases h),λh=>?_⟩)
    exfalso
    rw[jA rfl rfl (by decide)]at h;obtain⟨⟨q1,q2,q3,q4,q5,q6⟩,h7⟩:=h;dsimp only at q1 q2 q3 q4 q5 q6 h7;first
     |(simp_all;done)
     |(obtain⟨⟨p1,p2,p3⟩,p4,p5,p6⟩:=h7;dsimp only at p1 p2 p3 p4 p5 p6;first|(simp_all;done)|(simp_all;omega)|omega))
  |(refine ae true (hv:=by rfl) (hp:=⟨λ_=>?_,λ_=>rfl⟩)
    rw[jA rfl rfl (by decide)];first
     |(refine⟨⟨?_,?_,?_,?_,?_,?_⟩,⟨?_,?_,?_⟩,?_,?_,?_⟩<;>dsimp only<;>first|(simp_all;done)|(simp_all;omega)|omega)
     |(refine⟨⟨?_,?_,?_,?_,?_,?_⟩,?_⟩<;>first|(simp_all;done)|(simp_all;omega)))
  |(refine ae bb (hv:=by rfl) (hp:=?_)
    rw[jA rfl rfl (by decide)];constructor
    ·intro hb;refine⟨⟨?_,?_,?_,?_,?_,?_⟩,⟨?_,?_,?_⟩,?_,?_,?_⟩<;>dsimp only<;>first|(simp_all;done)|(simp_all;omega)|omega
    ·rintro⟨⟨q1,q2,q3,q4,q5,q6⟩,⟨p1,p2,p3⟩,p4,p5,p6⟩;dsimp only at q1 q2 q3 q4 q5 q6 p1 p2 p3 p4 p5 p6
     simp_all))
