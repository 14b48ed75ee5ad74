/-
  Part LibWW.
-/
import Derived.Test.YtfakljdleblkoaaGreatLibTW
import Derived.Test.YtfakljdleblkoaaGreatLibUW
import Derived.Test.YtfakljdleblkoaaGreatLibGW
set_option linter.all false
set_option maxRecDepth 10000
set_option maxHeartbeats 4000000
namespace Go.Proofs.YtfakljdleblkoaaGreat
open Go.Ideal Kd
abbrev ze(a b:List Int):Prop:=(∀x∈a,x∈b)/\∀x∈b,x∈a
theorem ahH{va vb:Value}{xs ys:List Int}(hx:xs.length<9223372036854775808)(hy:ys.length<9223372036854775808):dL Tryz.prog 223 [va,vb] [ai ae va xs,ai ae vb ys] (.bool (decide (ze xs ys))):=by
 refine aH _ (aN 223) λB w0=>?_;refine aT (E:=ae) (v:=va) (xs:=xs) vm λa1 c1 e1=>?_;subst e1;refine aT (E:=ae) (v:=vb) (xs:=ys) vm λa2 c2 e2=>?_;subst e2;refine go ?_;refine aW (λk=>xs.length - k) (λk:Nat=>[(5,.int .i64 (k:Int))]) (λ_=>[]) (λ_=>[]) (λk=>k<=xs.length/\∀x∈xs.take k,x∈ys) 0 ⟨vj,vm⟩ (body:=?_);rintro k ⟨hk,hall⟩;refine go ?_;refine az rfl (λh1=>?_) (λh1=>?_)
 ·refine go ?_;intro _ _ x hx;refine go ?_;refine ax (JB (xs:=ys) (z:=x) vj) (next:=λ_ _=>?_);refine go ?_;refine eO rfl (λh2=>?_) (λh2=>?_)
  ·refine go ?_;refine ah () (hv:=?_) (hp:=trivial);rw[aS (λh:ze xs ys=>h2 (h.1 x (aP hx)))];rfl
  exact mN
 have hkl:k=xs.length:=vj
 subst hkl;rw[bJ]at hall;have ahI:=hall;clear hall hk h1;refine go ?_;refine aW (λk=>ys.length - k) (λk:Nat=>[(6,.int .i64 (k:Int))]) (λ_=>[]) (λ_=>[]) (λk=>k<=ys.length/\∀x∈ys.take k,x∈xs) 0 ⟨vj,vm⟩ (body:=?_);rintro k ⟨hk,hall⟩;refine go ?_;refine az rfl (λh1=>?_) (λh1=>?_)
 ·refine go ?_;intro _ _ x hx;refine go ?_;refine ax (JB (xs:=xs) (z:=x) vj) (next:=λ_ _=>?_);refine go ?_;refine eO rfl (λh2=>?_) (λh2=>?_)
  ·refine go ?_;refine ah () (hv:=?_) (hp:=trivial);rw[aS (λh:ze xs ys=>h2 (h.2 x (aP hx)))];rfl
  exact mN
 have hkl:k=ys.length:=vj
 subst hkl;rw[bJ]at hall;refine go ?_;refine ah () (hv:=?_) (hp:=trivial);rw[eY (show ze xs ys from⟨ahI,hall⟩)];rfl
variable{g:bz}
theorem ahJ{ps:List Int}(h:yP g ps):ps.Nodup:=by
 have:=h.nd;unfold List.Nodup at this⊢;rw[xU]at this;exact this.imp λh e=>h xT
theorem V7{a b:List Int}(ha:a.Nodup)(hb:b.Nodup):ze a b↔bM a=bM b:=by
 constructor
 ·rintro⟨h1,h2⟩;exact Tn ((List.perm_ext_iff_of_nodup ha hb).2 λx=>⟨h1 x,h2 x⟩)
 ·intro h;exact⟨λx hx=>by rw[<- uD,<- h,uD];exact hx,λx hx=>by rw[<- uD,h,uD];exact hx⟩
theorem ahK{ls:List (List Int)}(hn:∀l∈ls,l.Nodup):(ls.map bM).Nodup↔∀(i j:Nat) a b,j<i->ls[i]? =some a->ls[j]? =some b->¬ze a b:=by
 rw[List.nodup_iff_pairwise_ne,xU,zm];constructor
 ·intro h i j a b hij ha hb hk;obtain⟨hi,rfl⟩:=bC.1 ha;obtain⟨hj,rfl⟩:=bC.1 hb;exact h j i hj hi hij ((V7 (hn _ (xP hi)) (hn _ (xP hj))).1 hk).symm
 ·intro h j i hj hi hij e;exact h i j ls[i] ls[j] hij (bW hi) (bW hj) ((V7 (hn _ (xP hi)) (hn _ (xP hj))).2 e.symm)
variable{d:bE}{vh vs vr vc vu:Value}
theorem ahL{gh gc:Value}(hS:mM d)(hG:qC g):
 aU Tryz.prog (.func 163) [.agg ⟨gu d vh vs vr vc vu⟩,.agg ⟨iH g gh gc⟩] [] [] (ai eZ vr d.regions::jk g gh gc) (λe:Int=>.int .i64 e) (λ_=>[]) (λ_=>[]) (λe=>e=0↔∀r∈d.regions,yV g r):=by
 have hrl:=hS.regs;have hre:=hS.vU;refine aH _ (aN 163) λB w0=>?_;refine aT (E:=eZ) (v:=vr) (xs:=d.regions) vm λa1 c1 e1=>?_;subst e1;refine go ?_;intro b2 b3;refine bi (dR (b:=b2)) (h:=?_);refine bi (dR (b:=b3)) (h:=?_);refine go ?_;refine aW (λk=>d.regions.length - k) (λk:Nat=>[(5,.int .i64 (k:Int))]) (λ_=>[]) (λ_=>[]) (λk=>k<=d.regions.length/\∀r∈d.regions.take k,yV g r) 0 ⟨vj,vm⟩ (body:=?_);rintro k ⟨hk,hall⟩;refine go ?_;refine az rfl (λh1=>?_) (λh1=>?_)
 ·refine go ?_;refine bq eZ (xs:=d.regions) (next:=λ_ _ r (vl:Value) hr=>?_);have hrm:=aP hr;have hrx:=hre r hrm;generalize hls:r.lists=ls at hrx;refine aT (E:=ak ae) (v:=vl) (xs:=ls) vm λal cl el=>?_;subst el;refine go ?_;refine ax (VQ (g:=g) (vh:=gh) (vc:=gc) (vr:=.slice al ls.length cl) (rs:=ls) hG hrx.1 hrx.2) (next:=λy hy=>?_);obtain⟨v7,e⟩:=y;dsimp only at hy⊢;refine go ?_;refine az rfl (λh2=>?_) (λh2=>?_)
  ·refine go ?_;exact ah e (hv:=rfl) (hp:=⟨λh=>absurd h h2,λh=>by exfalso;have:=h r hrm;exact h2 (hy.2 (by rw[<- hls];exact this.1))⟩)
  have he:e=0:=gT.1 h2;obtain⟨hg,hro⟩:=hy.1 he;subst he;clear hy h2;have hnd:∀l∈ls,l.Nodup:=λl hl=>ahJ (hro.all l hl);have V8:=ahK hnd;refine go ?_;refine aW (λi=>ls.length - i) (λi:Nat=>[(9,.int .i64 (i:Int))]) (λ_=>[]) (λ_=>[]) (λi=>i<=ls.length/\∀(i' j:Nat) a b,i'<i->j<i'->ls[i']? =some a->ls[j]? =some b->¬ze a b) 0 ⟨vj,λi' j a b h=>by omega⟩ (body:=?_);rintro i ⟨hi,hin⟩;refine go ?_;refine az rfl (λh3=>?_) (λh3=>?_)
  ·obtain⟨a,ha⟩:∃a,ls[i]? =some a:=⟨ls[i]'(vj),bW _⟩
   have hal:=hrx.2 a (aP ha);refine go ?_;refine aW (λj=>i - j) (λj:Nat=>[(10,.int .i64 (j:Int))]) (λ_=>[]) (λ_=>[]) (λj=>j<=i/\∀(j':Nat) b,j'<j->ls[j']? =some b->¬ze a b) 0 ⟨vj,λj' b h=>by omega⟩ (body:=?_);rintro j ⟨hj,hjn⟩;refine go ?_;refine az rfl (λh4=>?_) (λh4=>?_)
   ·refine go ?_;refine bq (ak ae) (xs:=ls) (next:=λ_ _ a' (_:Value) ha'=>?_);cases ha.symm.trans ha';refine go ?_;refine bq (ak ae) (xs:=ls) (next:=λ_ _ b (_:Value) hb=>?_);have hbl:=hrx.2 b (aP hb);refine go ?_;refine ax (ahH (xs:=a) (ys:=b) hal hbl) (next:=λ_ _=>?_);refine go ?_;refine az rfl (λh5=>?_) (λh5=>?_)
    ·refine go ?_;exact ah 161 (hv:=rfl) (hp:=⟨(λh=>by cases h),λh=>by
      exfalso
      have h6:=(h r hrm).2;rw[hls]at h6;exact V8.1 h6 i j a b vj ha hb h5⟩)
    refine go ?_;refine aM (j+1) vj ⟨vj,λj' b' hj' hb'=>?_⟩;by_cases e:j'=j
    ·subst e;rw[hb]at hb';cases hb';exact h5
    ·exact hjn j' b' vj hb'
   have hji:j=i:=vj
   subst hji;refine go ?_;refine aM (j+1) vj ⟨vj,λi' j' a' b' hi' hj' ha' hb'=>?_⟩;by_cases e:i'=j
   ·subst e;rw[ha]at ha';cases ha';exact hjn j' b' hj' hb'
   ·exact hin i' j' a' b' vj hj' ha' hb'
  have hil:i=ls.length:=vj
  subst hil;have hR:yV g r:=⟨⟨hg,by rw[hls];exact hro⟩,by rw[hls];exact V8.2 λi j a b hij ha hb=>hin i j a b (bC.1 ha).1 hij ha hb⟩
  refine go ?_;refine aM (k+1) vj ⟨vj,?_⟩;rw[bU hr];intro z hz;rcases dW.1 hz with hz|hz
  ·exact hall z hz
  ·rw[bK.1 hz];exact hR
 have hkl:k=d.regions.length:=vj
 subst hkl;rw[bJ]at hall;refine go ?_;exact ah 0 (hv:=rfl) (hp:=⟨λ_=>hall,λ_=>rfl⟩)
theorem ahM{c:iJ}:dL Tryz.prog 225 [.agg ⟨Jf c⟩] [] (.bool (decide (ow c))):=by
 refine aH _ (aN 225) λB w0=>?_;refine go ?_;intro b1;iterate 13 (all_goals (first
  |(refine ah () (hv:=?_) (hp:=trivial);first
   |exact congrArg Value.bool (nS.2 z7)
   |exact congrArg Value.bool (aS z7).symm
   |exact congrArg Value.bool (eY z7).symm)
  |(refine go ?_;first
   |with_reducible refine og (λ_=>?_) (λ_=>?_)
   |with_reducible refine nu (λ_=>?_) (λ_=>?_)
   |refine az rfl (λ_=>?_) (λ_=>?_)
   |skip)))
variable{r:bA}{v1 v2:Value}
theorem ahN:dL Tryz.prog 226 [.agg ⟨jI r v1 v2⟩] [] (.bool (decide (1<=r.kind/\r.kind<=11))):=by
 refine aH _ (aN 226) λB w0=>?_;refine go ?_;intro b1;refine go ?_;refine gG (λh1=>?_) (λh1=>?_)
 ·refine go ?_;refine ah () (hv:=?_) (hp:=trivial);rw[aS (λh=>h1 vj)];rfl
 refine go ?_;refine ah () (hv:=?_) (hp:=trivial);exact congrArg Value.bool (nS.2 vj)
theorem ahO(k:Int):(fH k).read=decide (1<=k/\k<=11):=by
 by_cases h:0<=k/\k<14
 ·have hc:k=0\/k=1\/k=2\/k=3\/k=4\/k=5\/k=6\/k=7\/k=8\/k=9\/k=10\/k=11\/k=12\/k=13:=by omega
  rcases hc with rfl|rfl|rfl|rfl|rfl|rfl|rfl|rfl|rfl|rfl|rfl|rfl|rfl|rfl<;>rfl
 ·rw[Cx vj,aS vj]
theorem ahP(hl:d.rules.length<=4096):aU Tryz.prog (.func 165) [.agg ⟨gu d vh vs vr vc vu⟩] [] [] [ai aY vu d.rules] (λa:Option Addr=>.slice a (jb d.rules).length (jb d.rules).length) (λ_=>[]) (λ_=>[]) (λ_=>True):=by
 refine aH _ (aN 165) λB w0=>?_;refine aT (E:=aY) (v:=vu) (xs:=d.rules) vm λa1 c1 e1=>?_;subst e1;refine go ?_;intro b1;refine bi (dR (b:=b1)) (h:=?_);refine go ?_;refine gH ae ?_;refine aW (λy:Nat×Value=>d.rules.length - y.1) (λy=>[(4,.int .i64 (y.1:Int)),(3,y.2)]) (λy=>[ap ae y.2 (jb (d.rules.take y.1))]) (λ_=>[]) (λy=>y.1<=d.rules.length/\(jb (d.rules.take y.1)).length<=y.1) (0,.slice none 0 0) ⟨bQ _,bV _⟩ (hk:=we) (body:=?_);rintro⟨k,v3⟩ ⟨hk,hkl⟩;dsimp only at hk hkl⊢;refine go ?_;refine az rfl (λh1=>?_) (λh1=>?_)
 ·refine go ?_;refine bq aY (xs:=d.rules) (next:=λ_ _ x (vx:Value×Value) hx=>?_);have AP:=UZ hx;rw[ahO]at AP;refine go ?_;refine ax (ahN (r:=x) (v1:=vx.1) (v2:=vx.2)) (next:=λ_ _=>?_);refine go ?_;refine eO rfl (λh2=>?_) (λh2=>?_)
  ·rw[if_neg (by rw[aS h2];simp)]at AP;refine go ?_;intro b21;refine go ?_;refine fw ae (xs:=jb (d.rules.take k)) (k:Int) () vj (next:=λad=>?_);rw[<- AP];refine go ?_;refine aM (k+1,.slice ad ((jb (d.rules.take k)).length+1) ((jb (d.rules.take k)).length+1)) z6 ⟨by show k+1<=_;omega,?_⟩;show(jb (d.rules.take (k+1))).length<=k+1;rw[AP,iE,zk];omega
  ·rw[if_pos (eY h2),iI]at AP;rw[<- AP];refine go ?_;refine aM (k+1,v3) z6 ⟨by show k+1<=_;omega,?_⟩;show(jb (d.rules.take (k+1))).length<=k+1;rw[AP];omega
 have hke:k=d.rules.length:=vj
 subst hke;rw[bJ];refine pV (E:=ae) (v:=v3) (xs:=jb d.rules) λa3 e3=>?_;subst e3;refine go ?_;exact ah a3 (hv:=rfl) (hp:=trivial)
def JI(cs:List iJ)(r:bA)(kind:Int)(on:Bool):Prop:=0<=r.aQ/\r.aQ<cs.length/\∃c,cs[r.aQ.toNat]? =some c/\c.type=kind/\(on=false\/c.family=r.family)
theorem qF{kind:Int}{on:Bool}(hcl:d.aJ.length<=4096):
 aU Tryz.prog (.func 295) [.agg ⟨gu d vh vs vr vc vu⟩,.agg ⟨jI r v1 v2⟩,.int .i64 kind,.bool on] [] [] [ai bP vc d.aJ] (λb:Bool=>.bool b) (λ_=>[]) (λ_=>[]) (λb=>b=true↔JI d.aJ r kind on):=by
 refine aH _ (aN 295) λB w0=>?_;refine aT (E:=bP) (v:=vc) (xs:=d.aJ) vm λa1 c1 e1=>?_;subst e1;refine go ?_;intro b4 b5;refine go ?_;refine gG (λh1=>?_) (λh1=>?_)
 rotate_left
 ·exact jp
 refine go ?_;refine az rfl (λh2=>?_) (λh2=>?_)
 ·refine go ?_;exact ah false (hv:=rfl) (hp:=⟨(λh=>by cases h),λh=>by exfalso;have:=h.2.1;omega⟩)
 obtain⟨k,hk⟩:=iO (show 0<=r.aQ by omega);refine go ?_;rw[hk];refine bq bP (xs:=d.aJ) (next:=λ_ _ c (_:Unit) hc=>?_);have hc':d.aJ[r.aQ.toNat]? =some c:=by rw[hk];exact hc
 have V9:∀c',d.aJ[r.aQ.toNat]? =some c'->c'=c:=λc' h=>by rw[hc']at h;exact(Option.some.inj h).symm
 refine go ?_;intro b9;refine go ?_;refine gG (λh3=>?_) (λh3=>?_)
 ·refine go ?_;exact ah false (hv:=rfl) (hp:=⟨(λh=>by cases h),λh=>by
   exfalso
   obtain⟨_,_,c',p1,p2,_⟩:=h;rw[V9 c' p1]at p2;exact h3 p2⟩)
 cases on with
 |false=>
  refine go ?_;exact ah true (hv:=rfl) (hp:=⟨λ_=>⟨vj,vj,c,hc',h3,.inl rfl⟩,λ_=>rfl⟩)
 |true=>
  refine go ?_;refine ah (decide (c.family=r.family)) (hv:=rfl) (hp:=⟨λh=>⟨vj,vj,c,hc',h3,.inr (gQ h)⟩,λh=>?_⟩);obtain⟨_,_,c',p1,p2,p3⟩:=h;rw[V9 c' p1]at p3;exact eY (p3.resolve_left vm)
def We(cs:List iJ)(r:bA):Prop:=(1<=r.op/\r.op<=3)/\((r.dm=oz/\(0<=r.n/\r.n<=65536)/\r.aQ= -1)\/(r.dm≠oz/\r.n=0/\JI cs r 2 true))
theorem rU(hcl:d.aJ.length<=4096):
 aU Tryz.prog (.func 294) [.agg ⟨gu d vh vs vr vc vu⟩,.agg ⟨jI r v1 v2⟩] [] [] [ai bP vc d.aJ] (λb:Bool=>.bool b) (λ_=>[]) (λ_=>[]) (λb=>b=true↔We d.aJ r):=by
 refine aH _ (aN 294) λB w0=>?_;refine go ?_;intro b2 b3;refine go ?_;refine gG (λh1=>?_) (λh1=>?_)
 rotate_left
 ·exact jp
 refine go ?_;refine az rfl (λh2=>?_) (λh2=>?_)
 ·exact jp
 refine go ?_;refine jh rfl (λh3=>?_) (λh3=>?_)
 ·rw[dY]at h3;have h3:r.dm=oz:=gQ h3;refine go ?_;refine gG (λh4=>?_) (λh4=>?_)
  ·exact mT
  refine go ?_;refine gG (λh5=>?_) (λh5=>?_)
  ·exact mT
  refine go ?_;exact ah (decide (r.aQ= -1)) (hv:=rfl) (hp:=⟨λh=>⟨⟨vj,vj⟩,.inl ⟨h3,⟨vj,vj⟩,gQ h⟩⟩,λh=>by
   rcases h.2 with⟨_,_,q⟩|⟨q,_⟩
   ·exact eY q
   ·exact absurd h3 q⟩)
 ·rw[dY]at h3;have h3:¬r.dm=oz:=mV h3;refine go ?_;refine gG (λh4=>?_) (λh4=>?_)
  ·refine go ?_;exact ah false (hv:=rfl) (hp:=⟨(λh=>by cases h),λh=>by
    exfalso
    rcases h.2 with⟨q,_⟩|⟨_,q,_⟩
    ·exact h3 q
    ·exact h4 q⟩)
  refine go ?_;refine ax (qF (d:=d) (r:=r) (kind:=2) (on:=true) (v1:=v1) (v2:=v2) hcl) (next:=λb hb=>?_);refine go ?_;exact ah b (hv:=rfl) (hp:=⟨λh=>⟨⟨vj,vj⟩,.inr ⟨h3,h4,hb.1 h⟩⟩,λh=>by
   rcases h.2 with⟨q,_⟩|⟨_,_,q⟩
   ·exact absurd q h3
   ·exact hb.2 q⟩)
noncomputable def pY:=qj Tryz.prog 224
theorem qG:kU Tryz.prog 224=some pY:=vA
abbrev jr(d:bE)(r:bA)(vh vs vr vc vu v1 v2:Value):Prop:=aU Tryz.prog (.func 224) [.agg ⟨gu d vh vs vr vc vu⟩,.agg ⟨jI r v1 v2⟩] [] [] [ai bP vc d.aJ,ai bD v1 r.names,ai bD v2 r.others] (λb:Bool=>.bool b) (λ_=>[]) (λ_=>[]) (λb=>b=true↔uJ (fH r.kind) d.aJ r)
structure Wh(x:Aw)(r:bA):Prop where
 on:(x.on=true↔r.on≠oz)
 iK:x.on=true\/r.family=0
 set:(x.set=true↔r.set≠0)
 names:x.set=true\/r.names=[]
 other:(x.other=true↔r.other≠0)
 others:x.other=true\/r.others=[]
structure ahQ(x:Aw)(r:bA):Prop where
 op:r.op=0
 n:x.free=true\/r.n=0
 dm:x.aQ≠0\/(r.dm=oz/\r.aQ= -1)
variable{x:Aw}{cs:List iJ}
theorem xN(hk:x.known=true)(ho:x.op=true)(hf:x.free=false)(hc:x.aQ=0):uJ x cs r↔Wh x r/\We cs r:=by
 constructor
 ·rintro⟨q1,q2,q3,q4,q5,q6,q7,q8,q9,Ay,Az,ko⟩;refine⟨⟨q2,q5,q3,q6,q4,q7⟩,q8.1 ho,?_⟩;by_cases hb:r.dm=oz
  ·left;rcases ko 0 (by rw[if_neg (λh=>h.2 hb),hc])with⟨_,_,w⟩|⟨w,_⟩
   ·exact⟨hb,Ay,w⟩
   ·exact absurd rfl w
  ·right;rcases ko 2 (by rw[if_pos ⟨ho,hb⟩])with⟨w,_⟩|⟨_,w1,w2,c,w3,w4,w5⟩
   ·cases w
   ·refine⟨hb,?_,w1,w2,c,w3,w4,.inr (w5.resolve_left vj)⟩;rcases Az with h|⟨_,h⟩|h
    ·rw[hf]at h;cases h
    ·exact absurd h hb
    ·exact h
 ·rintro⟨⟨q2,q5,q3,q6,q4,q7⟩,p1,p2⟩;refine⟨hk,q2,q3,q4,q5,q6,q7,⟨λ_=>p1,λ_=>ho⟩,.inl ho,?_,?_,λneed hn=>?_⟩
  ·rcases p2 with⟨_,h,_⟩|⟨_,h,_⟩
   ·exact h
   ·omega
  ·rcases p2 with⟨h,_,_⟩|⟨_,h,_⟩
   ·exact .inr (.inl ⟨ho,h⟩)
   ·exact .inr (.inr h)
  ·rcases p2 with⟨h,_,h2⟩|⟨h,_,w1,w2,c,w3,w4,w5⟩
   ·rw[if_neg (λq=>q.2 h),hc]at hn;exact .inl ⟨hn,h,h2⟩
   ·rw[if_pos ⟨ho,h⟩]at hn;exact .inr ⟨vj,w1,w2,c,w3,by rw[hn];exact w4,.inr (w5.resolve_left vm)⟩
theorem jl(hk:x.known=true)(ho:x.op=false)(hc:x.aQ=0\/x.aQ=1\/x.aQ=3):uJ x cs r↔Wh x r/\ahQ x r/\(0<=r.n/\r.n<=65536)/\(x.aQ=3->JI cs r 3 true)/\(x.aQ=1->JI cs r 1 false):=by
 have hne:∀a b:Int,(if x.op=true/\r.dm≠oz then a else b)=b:=λa b=>if_neg (λh=>by rw[ho]at h;cases h.1);constructor
 ·rintro⟨q1,q2,q3,q4,q5,q6,q7,q8,q9,Ay,Az,ko⟩;have hop:r.op=0:=by rcases q9 with h|h;rw[ho]at h;cases h;exact h
  have ko:=ko x.aQ (hne _ _).symm;refine⟨⟨q2,q5,q3,q6,q4,q7⟩,⟨hop,?_,?_⟩,Ay,λh=>?_,λh=>?_⟩
  ·rcases Az with h|⟨h,_⟩|h
   ·exact .inl h
   ·rw[ho]at h;cases h
   ·exact .inr h
  ·rcases ko with⟨_,w⟩|⟨w,_⟩
   ·exact .inr w
   ·exact .inl w
  ·rcases ko with⟨w,_⟩|⟨_,w1,w2,c,w3,w4,w5⟩
   ·omega
   ·exact⟨w1,w2,c,w3,vj,.inr (w5.resolve_left vj)⟩
  ·rcases ko with⟨w,_⟩|⟨_,w1,w2,c,w3,w4,w5⟩
   ·omega
   ·exact⟨w1,w2,c,w3,vj,.inl rfl⟩
 ·rintro⟨⟨q2,q5,q3,q6,q4,q7⟩,⟨p1,p2,p3⟩,p4,p5,p6⟩;refine⟨hk,q2,q3,q4,q5,q6,q7,⟨(λh=>by rw[ho]at h;cases h),(λh=>by omega)⟩,.inr p1,p4,?_,λneed hn=>?_⟩
  ·rcases p2 with h|h
   ·exact .inl h
   ·exact .inr (.inr h)
  ·rw[hne]at hn;subst hn;rcases hc with h|h|h
   ·exact .inl ⟨h,p3.resolve_left vj⟩
   ·obtain⟨w1,w2,c,w3,w4,w5⟩:=p6 h;exact .inr ⟨vj,w1,w2,c,w3,vj,.inl h⟩
   ·obtain⟨w1,w2,c,w3,w4,w5⟩:=p5 h;exact .inr ⟨vj,w1,w2,c,w3,vj,.inr (w5.resolve_left vm)⟩
theorem ahR(hk:r.kind=1)(hcl:d.aJ.length<=4096)(h1:r.names.length<9223372036854775808)(h2:r.others.length<9223372036854775808):jr d r vh vs vr vc vu v1 v2:=by
 obtain⟨rn,iy,rk,rf,cB,cK,rs,iC,gL,gM,gN,gP⟩:=r;dsimp only at hk h1 h2;subst hk;dsimp only[jr];rw[show fH 1=⟨true,false,false,false,false,true,true,0⟩from wg];refine aH pY qG λB w0=>?_;refine aT (E:=bD) (v:=v1) (xs:=cB) vm λa1 c1 e1=>?_;subst e1;refine aT (E:=bD) (v:=v2) (xs:=cK) vm λa2 c2 e2=>?_;subst e2;refine go ?_;intro b2 b3;iterate 16 (all_goals (first
  |(refine ax (rU (d:=d) (r:=⟨rn,iy,1,rf,cB,cK,rs,iC,gL,gM,gN,gP⟩) (v1:=.slice a1 cB.length c1) (v2:=.slice a2 cK.length c2) hcl) (next:=λbb hbb=>?_))
  |(refine ax (qF (d:=d) (r:=⟨rn,iy,1,rf,cB,cK,rs,iC,gL,gM,gN,gP⟩) (v1:=.slice a1 cB.length c1) (v2:=.slice a2 cK.length c2) hcl) (next:=λbb hbb=>?_))
  |(refine go ?_;first
   |with_reducible refine og (λ_=>?_) (λ_=>?_)
   |with_reducible refine nu (λ_=>?_) (λ_=>?_)
   |with_reducible refine lH (λ_=>?_) (λ_=>?_)
   |refine az rfl (λ_=>?_) (λ_=>?_)
   |refine eO rfl (λ_=>?_) (λ_=>?_)
   |refine jh rfl (λ_=>?_) (λ_=>?_)
   |skip)))
 all_goals (try simp only[dY]at *)
 all_goals (first
  |(refine ah false (hv:=wg) (hp:=⟨(λh=>by cases h),λh=>?_⟩)
    exfalso
    rw[jl rfl rfl wj]at h;obtain⟨⟨q1,q2,q3,q4,q5,q6⟩,h7⟩:=h;dsimp only at q1 q2 q3 q4 q5 q6 h7;first
     |(simp_all;done)
     |(obtain⟨⟨p1,p2,p3⟩,p4,p5,p6⟩:=h7;dsimp only at p1 p2 p3 p4 p5 p6;first|(simp_all;done)|(simp_all;omega)|omega))
  |(refine ah true (hv:=wg) (hp:=⟨λ_=>?_,λ_=>rfl⟩)
    rw[jl rfl rfl wj];first
     |(refine⟨⟨?_,?_,?_,?_,?_,?_⟩,⟨?_,?_,?_⟩,?_,?_,?_⟩<;>dsimp only<;>first|(simp_all;done)|(simp_all;omega)|omega)
     |(refine⟨⟨?_,?_,?_,?_,?_,?_⟩,?_⟩<;>first|(simp_all;done)|(simp_all;omega)))
  |(refine ah bb (hv:=wg) (hp:=?_)
    rw[jl rfl rfl wj];constructor
    ·exact cw
    ·exact cD))
theorem ahS(hk:r.kind=2)(hcl:d.aJ.length<=4096)(h1:r.names.length<9223372036854775808)(h2:r.others.length<9223372036854775808):jr d r vh vs vr vc vu v1 v2:=by
 obtain⟨rn,iy,rk,rf,cB,cK,rs,iC,gL,gM,gN,gP⟩:=r;dsimp only at hk h1 h2;subst hk;dsimp only[jr];rw[show fH 2=⟨true,true,false,true,false,true,true,0⟩from wg];refine aH pY qG λB w0=>?_;refine aT (E:=bD) (v:=v1) (xs:=cB) vm λa1 c1 e1=>?_;subst e1;refine aT (E:=bD) (v:=v2) (xs:=cK) vm λa2 c2 e2=>?_;subst e2;refine go ?_;intro b2 b3;iterate 16 (all_goals (first
  |(refine ax (rU (d:=d) (r:=⟨rn,iy,2,rf,cB,cK,rs,iC,gL,gM,gN,gP⟩) (v1:=.slice a1 cB.length c1) (v2:=.slice a2 cK.length c2) hcl) (next:=λbb hbb=>?_))
  |(refine ax (qF (d:=d) (r:=⟨rn,iy,2,rf,cB,cK,rs,iC,gL,gM,gN,gP⟩) (v1:=.slice a1 cB.length c1) (v2:=.slice a2 cK.length c2) hcl) (next:=λbb hbb=>?_))
  |(refine go ?_;first
   |with_reducible refine og (λ_=>?_) (λ_=>?_)
   |with_reducible refine nu (λ_=>?_) (λ_=>?_)
   |with_reducible refine lH (λ_=>?_) (λ_=>?_)
   |refine az rfl (λ_=>?_) (λ_=>?_)
   |refine eO rfl (λ_=>?_) (λ_=>?_)
   |refine jh rfl (λ_=>?_) (λ_=>?_)
   |skip)))
 all_goals (try simp only[dY]at *)
 all_goals (first
  |(refine ah false (hv:=wg) (hp:=⟨(λh=>by cases h),λh=>?_⟩)
    exfalso
    rw[xN rfl rfl rfl rfl]at h;obtain⟨⟨q1,q2,q3,q4,q5,q6⟩,h7⟩:=h;dsimp only at q1 q2 q3 q4 q5 q6 h7;first
     |(simp_all;done)
     |(obtain⟨⟨p1,p2,p3⟩,p4,p5,p6⟩:=h7;dsimp only at p1 p2 p3 p4 p5 p6;first|(simp_all;done)|(simp_all;omega)|omega))
  |(refine ah true (hv:=wg) (hp:=⟨λ_=>?_,λ_=>rfl⟩)
    rw[xN rfl rfl rfl rfl];first
     |(refine⟨⟨?_,?_,?_,?_,?_,?_⟩,⟨?_,?_,?_⟩,?_,?_,?_⟩<;>dsimp only<;>first|(simp_all;done)|(simp_all;omega)|omega)
     |(refine⟨⟨?_,?_,?_,?_,?_,?_⟩,?_⟩<;>first|(simp_all;done)|(simp_all;omega)))
  |(refine ah bb (hv:=wg) (hp:=?_)
    rw[xN rfl rfl rfl rfl];constructor
    ·exact cw
    ·exact cD))
theorem ahT(hk:r.kind=3)(hcl:d.aJ.length<=4096)(h1:r.names.length<9223372036854775808)(h2:r.others.length<9223372036854775808):jr d r vh vs vr vc vu v1 v2:=by
 obtain⟨rn,iy,rk,rf,cB,cK,rs,iC,gL,gM,gN,gP⟩:=r;dsimp only at hk h1 h2;subst hk;dsimp only[jr];rw[show fH 3=⟨true,false,false,true,false,true,true,0⟩from wg];refine aH pY qG λB w0=>?_;refine aT (E:=bD) (v:=v1) (xs:=cB) vm λa1 c1 e1=>?_;subst e1;refine aT (E:=bD) (v:=v2) (xs:=cK) vm λa2 c2 e2=>?_;subst e2;refine go ?_;intro b2 b3;iterate 16 (all_goals (first
  |(refine ax (rU (d:=d) (r:=⟨rn,iy,3,rf,cB,cK,rs,iC,gL,gM,gN,gP⟩) (v1:=.slice a1 cB.length c1) (v2:=.slice a2 cK.length c2) hcl) (next:=λbb hbb=>?_))
  |(refine ax (qF (d:=d) (r:=⟨rn,iy,3,rf,cB,cK,rs,iC,gL,gM,gN,gP⟩) (v1:=.slice a1 cB.length c1) (v2:=.slice a2 cK.length c2) hcl) (next:=λbb hbb=>?_))
  |(refine go ?_;first
   |with_reducible refine og (λ_=>?_) (λ_=>?_)
   |with_reducible refine nu (λ_=>?_) (λ_=>?_)
   |with_reducible refine lH (λ_=>?_) (λ_=>?_)
   |refine az rfl (λ_=>?_) (λ_=>?_)
   |refine eO rfl (λ_=>?_) (λ_=>?_)
   |refine jh rfl (λ_=>?_) (λ_=>?_)
   |skip)))
 all_goals (try simp only[dY]at *)
 all_goals (first
  |(refine ah false (hv:=wg) (hp:=⟨(λh=>by cases h),λh=>?_⟩)
    exfalso
    rw[xN rfl rfl rfl rfl]at h;obtain⟨⟨q1,q2,q3,q4,q5,q6⟩,h7⟩:=h;dsimp only at q1 q2 q3 q4 q5 q6 h7;first
     |(simp_all;done)
     |(obtain⟨⟨p1,p2,p3⟩,p4,p5,p6⟩:=h7;dsimp only at p1 p2 p3 p4 p5 p6;first|(simp_all;done)|(simp_all;omega)|omega))
  |(refine ah true (hv:=wg) (hp:=⟨λ_=>?_,λ_=>rfl⟩)
    rw[xN rfl rfl rfl rfl];first
     |(refine⟨⟨?_,?_,?_,?_,?_,?_⟩,⟨?_,?_,?_⟩,?_,?_,?_⟩<;>dsimp only<;>first|(simp_all;done)|(simp_all;omega)|omega)
     |(refine⟨⟨?_,?_,?_,?_,?_,?_⟩,?_⟩<;>first|(simp_all;done)|(simp_all;omega)))
  |(refine ah bb (hv:=wg) (hp:=?_)
    rw[xN rfl rfl rfl rfl];constructor
    ·exact cw
    ·exact cD))
theorem ahU(hk:r.kind=4)(hcl:d.aJ.length<=4096)(h1:r.names.length<9223372036854775808)(h2:r.others.length<9223372036854775808):jr d r vh vs vr vc vu v1 v2:=by
 obtain⟨rn,iy,rk,rf,cB,cK,rs,iC,gL,gM,gN,gP⟩:=r;dsimp only at hk h1 h2;subst hk;dsimp only[jr];rw[show fH 4=⟨true,false,false,false,false,true,true,0⟩from wg];refine aH pY qG λB w0=>?_;refine aT (E:=bD) (v:=v1) (xs:=cB) vm λa1 c1 e1=>?_;subst e1;refine aT (E:=bD) (v:=v2) (xs:=cK) vm λa2 c2 e2=>?_;subst e2;refine go ?_;intro b2 b3;iterate 16 (all_goals (first
  |(refine ax (rU (d:=d) (r:=⟨rn,iy,4,rf,cB,cK,rs,iC,gL,gM,gN,gP⟩) (v1:=.slice a1 cB.length c1) (v2:=.slice a2 cK.length c2) hcl) (next:=λbb hbb=>?_))
  |(refine ax (qF (d:=d) (r:=⟨rn,iy,4,rf,cB,cK,rs,iC,gL,gM,gN,gP⟩) (v1:=.slice a1 cB.length c1) (v2:=.slice a2 cK.length c2) hcl) (next:=λbb hbb=>?_))
  |(refine go ?_;first
   |with_reducible refine og (λ_=>?_) (λ_=>?_)
   |with_reducible refine nu (λ_=>?_) (λ_=>?_)
   |with_reducible refine lH (λ_=>?_) (λ_=>?_)
   |refine az rfl (λ_=>?_) (λ_=>?_)
   |refine eO rfl (λ_=>?_) (λ_=>?_)
   |refine jh rfl (λ_=>?_) (λ_=>?_)
   |skip)))
 all_goals (try simp only[dY]at *)
 all_goals (first
  |(refine ah false (hv:=wg) (hp:=⟨(λh=>by cases h),λh=>?_⟩)
    exfalso
    rw[jl rfl rfl wj]at h;obtain⟨⟨q1,q2,q3,q4,q5,q6⟩,h7⟩:=h;dsimp only at q1 q2 q3 q4 q5 q6 h7;first
     |(simp_all;done)
     |(obtain⟨⟨p1,p2,p3⟩,p4,p5,p6⟩:=h7;dsimp only at p1 p2 p3 p4 p5 p6;first|(simp_all;done)|(simp_all;omega)|omega))
  |(refine ah true (hv:=wg) (hp:=⟨λ_=>?_,λ_=>rfl⟩)
    rw[jl rfl rfl wj];first
     |(refine⟨⟨?_,?_,?_,?_,?_,?_⟩,⟨?_,?_,?_⟩,?_,?_,?_⟩<;>dsimp only<;>first|(simp_all;done)|(simp_all;omega)|omega)
     |(refine⟨⟨?_,?_,?_,?_,?_,?_⟩,?_⟩<;>first|(simp_all;done)|(simp_all;omega)))
  |(refine ah bb (hv:=wg) (hp:=?_)
    rw[jl rfl rfl wj];constructor
    ·exact cw
    ·exact cD))
theorem ahV(hk:r.kind=5)(hcl:d.aJ.length<=4096)(h1:r.names.length<9223372036854775808)(h2:r.others.length<9223372036854775808):jr d r vh vs vr vc vu v1 v2:=by
 obtain⟨rn,iy,rk,rf,cB,cK,rs,iC,gL,gM,gN,gP⟩:=r;dsimp only at hk h1 h2;subst hk;dsimp only[jr];rw[show fH 5=⟨true,true,false,false,false,true,true,3⟩from wg];refine aH pY qG λB w0=>?_;refine aT (E:=bD) (v:=v1) (xs:=cB) vm λa1 c1 e1=>?_;subst e1;refine aT (E:=bD) (v:=v2) (xs:=cK) vm λa2 c2 e2=>?_;subst e2;refine go ?_;intro b2 b3;iterate 16 (all_goals (first
  |(refine ax (rU (d:=d) (r:=⟨rn,iy,5,rf,cB,cK,rs,iC,gL,gM,gN,gP⟩) (v1:=.slice a1 cB.length c1) (v2:=.slice a2 cK.length c2) hcl) (next:=λbb hbb=>?_))
  |(refine ax (qF (d:=d) (r:=⟨rn,iy,5,rf,cB,cK,rs,iC,gL,gM,gN,gP⟩) (v1:=.slice a1 cB.length c1) (v2:=.slice a2 cK.length c2) hcl) (next:=λbb hbb=>?_))
  |(refine go ?_;first
   |with_reducible refine og (λ_=>?_) (λ_=>?_)
   |with_reducible refine nu (λ_=>?_) (λ_=>?_)
   |with_reducible refine lH (λ_=>?_) (λ_=>?_)
   |refine az rfl (λ_=>?_) (λ_=>?_)
   |refine eO rfl (λ_=>?_) (λ_=>?_)
   |refine jh rfl (λ_=>?_) (λ_=>?_)
   |skip)))
 all_goals (try simp only[dY]at *)
 all_goals (first
  |(refine ah false (hv:=wg) (hp:=⟨(λh=>by cases h),λh=>?_⟩)
    exfalso
    rw[jl rfl rfl wj]at h;obtain⟨⟨q1,q2,q3,q4,q5,q6⟩,h7⟩:=h;dsimp only at q1 q2 q3 q4 q5 q6 h7;first
     |(simp_all;done)
     |(obtain⟨⟨p1,p2,p3⟩,p4,p5,p6⟩:=h7;dsimp only at p1 p2 p3 p4 p5 p6;first|(simp_all;done)|(simp_all;omega)|omega))
  |(refine ah true (hv:=wg) (hp:=⟨λ_=>?_,λ_=>rfl⟩)
    rw[jl rfl rfl wj];first
     |(refine⟨⟨?_,?_,?_,?_,?_,?_⟩,⟨?_,?_,?_⟩,?_,?_,?_⟩<;>dsimp only<;>first|(simp_all;done)|(simp_all;omega)|omega)
     |(refine⟨⟨?_,?_,?_,?_,?_,?_⟩,?_⟩<;>first|(simp_all;done)|(simp_all;omega)))
  |(refine ah bb (hv:=wg) (hp:=?_)
    rw[jl rfl rfl wj];constructor
    ·exact cw
    ·exact cD))
theorem ahW(hk:r.kind=6)(hcl:d.aJ.length<=4096)(h1:r.names.length<9223372036854775808)(h2:r.others.length<9223372036854775808):jr d r vh vs vr vc vu v1 v2:=by
 obtain⟨rn,iy,rk,rf,cB,cK,rs,iC,gL,gM,gN,gP⟩:=r;dsimp only at hk h1 h2;subst hk;dsimp only[jr];rw[show fH 6=⟨false,false,false,false,false,true,true,0⟩from wg];refine aH pY qG λB w0=>?_;refine aT (E:=bD) (v:=v1) (xs:=cB) vm λa1 c1 e1=>?_;subst e1;refine aT (E:=bD) (v:=v2) (xs:=cK) vm λa2 c2 e2=>?_;subst e2;refine go ?_;intro b2 b3;iterate 16 (all_goals (first
  |(refine ax (rU (d:=d) (r:=⟨rn,iy,6,rf,cB,cK,rs,iC,gL,gM,gN,gP⟩) (v1:=.slice a1 cB.length c1) (v2:=.slice a2 cK.length c2) hcl) (next:=λbb hbb=>?_))
  |(refine ax (qF (d:=d) (r:=⟨rn,iy,6,rf,cB,cK,rs,iC,gL,gM,gN,gP⟩) (v1:=.slice a1 cB.length c1) (v2:=.slice a2 cK.length c2) hcl) (next:=λbb hbb=>?_))
  |(refine go ?_;first
   |with_reducible refine og (λ_=>?_) (λ_=>?_)
   |with_reducible refine nu (λ_=>?_) (λ_=>?_)
   |with_reducible refine lH (λ_=>?_) (λ_=>?_)
   |refine az rfl (λ_=>?_) (λ_=>?_)
   |refine eO rfl (λ_=>?_) (λ_=>?_)
   |refine jh rfl (λ_=>?_) (λ_=>?_)
   |skip)))
 all_goals (try simp only[dY]at *)
 all_goals (first
  |(refine ah false (hv:=wg) (hp:=⟨(λh=>by cases h),λh=>?_⟩)
    exfalso
    rw[jl rfl rfl wj]at h;obtain⟨⟨q1,q2,q3,q4,q5,q6⟩,h7⟩:=h;dsimp only at q1 q2 q3 q4 q5 q6 h7;first
     |(simp_all;done)
     |(obtain⟨⟨p1,p2,p3⟩,p4,p5,p6⟩:=h7;dsimp only at p1 p2 p3 p4 p5 p6;first|(simp_all;done)|(simp_all;omega)|omega))
  |(refine ah true (hv:=wg) (hp:=⟨λ_=>?_,λ_=>rfl⟩)
    rw[jl rfl rfl wj];first
     |(refine⟨⟨?_,?_,?_,?_,?_,?_⟩,⟨?_,?_,?_⟩,?_,?_,?_⟩<;>dsimp only<;>first|(simp_all;done)|(simp_all;omega)|omega)
     |(refine⟨⟨?_,?_,?_,?_,?_,?_⟩,?_⟩<;>first|(simp_all;done)|(simp_all;omega)))
  |(refine ah bb (hv:=wg) (hp:=?_)
    rw[jl rfl rfl wj];constructor
    ·exact cw
    ·exact cD))
theorem ahX(hk:r.kind=7)(hcl:d.aJ.length<=4096)(h1:r.names.length<9223372036854775808)(h2:r.others.length<9223372036854775808):jr d r vh vs vr vc vu v1 v2:=by
 obtain⟨rn,iy,rk,rf,cB,cK,rs,iC,gL,gM,gN,gP⟩:=r;dsimp only at hk h1 h2;subst hk;dsimp only[jr];rw[show fH 7=⟨false,false,false,false,true,true,true,0⟩from wg];refine aH pY qG λB w0=>?_;refine aT (E:=bD) (v:=v1) (xs:=cB) vm λa1 c1 e1=>?_;subst e1;refine aT (E:=bD) (v:=v2) (xs:=cK) vm λa2 c2 e2=>?_;subst e2;refine go ?_;intro b2 b3;iterate 16 (all_goals (first
  |(refine ax (rU (d:=d) (r:=⟨rn,iy,7,rf,cB,cK,rs,iC,gL,gM,gN,gP⟩) (v1:=.slice a1 cB.length c1) (v2:=.slice a2 cK.length c2) hcl) (next:=λbb hbb=>?_))
  |(refine ax (qF (d:=d) (r:=⟨rn,iy,7,rf,cB,cK,rs,iC,gL,gM,gN,gP⟩) (v1:=.slice a1 cB.length c1) (v2:=.slice a2 cK.length c2) hcl) (next:=λbb hbb=>?_))
  |(refine go ?_;first
   |with_reducible refine og (λ_=>?_) (λ_=>?_)
   |with_reducible refine nu (λ_=>?_) (λ_=>?_)
   |with_reducible refine lH (λ_=>?_) (λ_=>?_)
   |refine az rfl (λ_=>?_) (λ_=>?_)
   |refine eO rfl (λ_=>?_) (λ_=>?_)
   |refine jh rfl (λ_=>?_) (λ_=>?_)
   |skip)))
 all_goals (try simp only[dY]at *)
 all_goals (first
  |(refine ah false (hv:=wg) (hp:=⟨(λh=>by cases h),λh=>?_⟩)
    exfalso
    rw[jl rfl rfl wj]at h;obtain⟨⟨q1,q2,q3,q4,q5,q6⟩,h7⟩:=h;dsimp only at q1 q2 q3 q4 q5 q6 h7;first
     |(simp_all;done)
     |(obtain⟨⟨p1,p2,p3⟩,p4,p5,p6⟩:=h7;dsimp only at p1 p2 p3 p4 p5 p6;first|(simp_all;done)|(simp_all;omega)|omega))
  |(refine ah true (hv:=wg) (hp:=⟨λ_=>?_,λ_=>rfl⟩)
    rw[jl rfl rfl wj];first
     |(refine⟨⟨?_,?_,?_,?_,?_,?_⟩,⟨?_,?_,?_⟩,?_,?_,?_⟩<;>dsimp only<;>first|(simp_all;done)|(simp_all;omega)|omega)
     |(refine⟨⟨?_,?_,?_,?_,?_,?_⟩,?_⟩<;>first|(simp_all;done)|(simp_all;omega)))
  |(refine ah bb (hv:=wg) (hp:=?_)
    rw[jl rfl rfl wj];constructor
    ·exact cw
    ·exact cD))
