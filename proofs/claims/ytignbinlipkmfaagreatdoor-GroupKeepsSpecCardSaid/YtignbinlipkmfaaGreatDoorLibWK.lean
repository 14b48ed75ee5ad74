/- Part. -/
import Derived.Test.YtignbinlipkmfaaGreatDoorLibTK
import Derived.Test.YtignbinlipkmfaaGreatDoorLibUK
import Derived.Test.YtignbinlipkmfaaGreatDoorLibGK
set_option linter.all false
set_option maxRecDepth 10000
set_option maxHeartbeats 4000000
namespace Go.Proofs.YtignbinlipkmfaaGreatDoor
open Tryz (prog)
open Go.Ideal Kd
abbrev AL(a b:ae Int):Prop:=(∀x∈a,x∈b)/\∀x∈b,x∈a
def alD{va vb:ah}{xs ys:ae Int}(hx:xs.length<2^63)(hy:ys.length<2^63):dL prog 222 [va,vb] [aj ai va xs,aj ai vb ys] (.bool (decide (AL xs ys))):=by
 refine gB 222 λB w0=>?_;refine gF ai va xs λa1 c1 e1=>?_;subst e1;refine gF ai vb ys λa2 c2 e2=>?_;subst e2;refine gN xs.length 5 (λk=>k<=xs.length/\∀x∈xs.take k,x∈ys) ⟨tr,tt⟩ ?_;rintro k ⟨hk,hall⟩;refine aB ?_ ?_<;>intro h1
 .refine go ?_;intro _ _ x hx;refine gC (LD (xs:=ys) (z:=x) tr) λ_ _=>?_;refine go ?_;refine fu rfl (λh2=>?_) (λh2=>?_)
  .refine aM ?_;rw[aY (λh:AL xs ys=>h2 (h.1 x (aS hx)))];rfl
  exact iu
 have hkl:k=xs.length:=tr
 subst hkl;rw[bM]at hall;have alE:=hall;clear hall hk h1;refine gN ys.length 6 (λk=>k<=ys.length/\∀x∈ys.take k,x∈xs) ⟨tr,tt⟩ ?_;rintro k ⟨hk,hall⟩;refine aB ?_ ?_<;>intro h1
 .refine go ?_;intro _ _ x hx;refine gC (LD (xs:=xs) (z:=x) tr) λ_ _=>?_;refine go ?_;refine fu rfl (λh2=>?_) (λh2=>?_)
  .refine aM ?_;rw[aY (λh:AL xs ys=>h2 (h.2 x (aS hx)))];rfl
  exact iu
 have hkl:k=ys.length:=tr
 subst hkl;rw[bM]at hall;refine aM ?_;rw[eB (show AL xs ys from⟨alE,hall⟩)];rfl
variable{g:bB}
def alF{ps:ae Int}(h:Aj g ps):ps.Nodup:=by
 have:=h.nd;unfold List.Nodup at this⊢;rw[zz]at this;exact this.imp λh e=>h (by rw[e])
def YL{a b:ae Int}(ha:a.Nodup)(hb:b.Nodup):AL a b↔bR a=bR b:=by
 constructor
 .rintro⟨h1,h2⟩;exact V6 ((List.perm_ext_iff_of_nodup ha hb).2 λx=>⟨h1 x,h2 x⟩)
 .intro h;exact⟨λx hx=>by rw[<- wF,<- h,wF];exact hx,λx hx=>by rw[<- wF,h,wF];exact hx⟩
def alG{ls:ae (ae Int)}(hn:∀l∈ls,l.Nodup):(ls.map bR).Nodup↔∀(i j:Nat) a b,j<i->ls[i]? =some a->ls[j]? =some b->¬AL a b:=by
 rw[List.nodup_iff_pairwise_ne,zz,AZ];constructor
 .intro h i j a b hij ha hb hk;obtain⟨hi,rfl⟩:=bC.1 ha;obtain⟨hj,rfl⟩:=bC.1 hb;exact h j i hj hi hij ((YL (hn _ (wU hi)) (hn _ (wU hj))).1 hk).symm
 .intro h j i hj hi hij e;exact h i j ls[i] ls[j] hij (bX hi) (bX hj) ((YL (hn _ (wU hi)) (hn _ (wU hj))).2 e.symm)
variable{d:bG}{vh vs vr vc vu:ah}
def alH{gh gc:ah}(hS:nW d)(hG:si g):
 fC prog 135 [.agg ⟨gW d vh vs vr vc vu⟩,.agg ⟨jm g gh gc⟩] (aj fw vr d.regions::jU g gh gc) (λe:Int=>iV e) (λe=>e=0↔∀r∈d.regions,Au g r):=by
 have hrl:=hS.regs;have hre:=hS.tV;refine gB 135 λB w0=>?_;refine gF fw vr d.regions λa1 c1 e1=>?_;subst e1;refine go ?_;intro b2 b3;refine gP b2 ?_;refine gP b3 ?_;refine gN d.regions.length 5 (λk=>k<=d.regions.length/\∀r∈d.regions.take k,Au g r) ⟨tr,tt⟩ ?_;rintro k ⟨hk,hall⟩;refine aB ?_ ?_<;>intro h1
 .refine gX fw (xs:=d.regions) λ_ _ r (vl:ah) hr=>?_;have hrm:=aS hr;have hrx:=hre r hrm;generalize hls:r.lists=ls at hrx;refine gF (aA ai) vl ls λal cl el=>?_;subst el;refine gC (Yy (g:=g) (rs:=ls) hG hrx.1 hrx.2) λy hy=>?_;obtain⟨v7,e⟩:=y;dsimp only at hy⊢;refine aB ?_ ?_<;>intro h2
  .refine go ?_;exact gQ e ⟨λh=>absurd h h2,λh=>by exfalso;have:=h r hrm;exact h2 (hy.2 (by rw[<- hls];exact this.1))⟩
  have he:e=0:=iD.1 h2;obtain⟨hg,hro⟩:=hy.1 he;subst he;clear hy h2;have hnd:∀l∈ls,l.Nodup:=λl hl=>alF (hro.all l hl);have YM:=alG hnd;refine gN ls.length 9 (λi=>i<=ls.length/\∀(i' j:Nat) a b,i'<i->j<i'->ls[i']? =some a->ls[j]? =some b->¬AL a b) ⟨tr,λi' j a b h=>by omega⟩ ?_;rintro i ⟨hi,hin⟩;refine aB ?_ ?_<;>intro h3
  .obtain⟨a,ha⟩:∃a,ls[i]? =some a:=⟨ls[i]'(tr),bX _⟩
   have hal:=hrx.2 a (aS ha);refine gN i 10 (λj=>j<=i/\∀(j':Nat) b,j'<j->ls[j']? =some b->¬AL a b) ⟨tr,λj' b h=>by omega⟩ ?_;rintro j ⟨hj,hjn⟩;refine aB ?_ ?_<;>intro h4
   .refine gX (aA ai) (xs:=ls) λ_ _ a' (_:ah) ha'=>?_;cases ha.symm.trans ha';refine gX (aA ai) (xs:=ls) λ_ _ b (_:ah) hb=>?_;have hbl:=hrx.2 b (aS hb);refine gC (alD (xs:=a) (ys:=b) hal hbl) λ_ _=>?_;refine aB ?_ ?_<;>intro h5
    .refine go ?_;exact gQ 161 ⟨(λh=>by cases h),λh=>by
      exfalso
      have h6:=(h r hrm).2;rw[hls]at h6;exact YM.1 h6 i j a b tr ha hb h5⟩
    refine go ?_;refine aQ (j+1) tr ⟨tr,λj' b' hj' hb'=>?_⟩;by_cases e:j'=j
    .subst e;rw[hb]at hb';cases hb';exact h5
    .exact hjn j' b' tr hb'
   have hji:j=i:=tr
   subst hji;refine go ?_;refine aQ (j+1) tr ⟨tr,λi' j' a' b' hi' hj' ha' hb'=>?_⟩;by_cases e:i'=j
   .subst e;rw[ha]at ha';cases ha';exact hjn j' b' hj' hb'
   .exact hin i' j' a' b' tr hj' ha' hb'
  have hil:i=ls.length:=tr
  subst hil;have hR:Au g r:=⟨⟨hg,by rw[hls];exact hro⟩,by rw[hls];exact YM.2 λi j a b hij ha hb=>hin i j a b (bC.1 ha).1 hij ha hb⟩
  refine go ?_;refine aQ (k+1) tr ⟨tr,?_⟩;rw[cB hr];intro z hz;rcases dY.1 hz with hz|hz
  .exact hall z hz
  .rw[bK.1 hz];exact hR
 have hkl:k=d.regions.length:=tr
 subst hkl;rw[bM]at hall;refine go ?_;exact gQ 0 ⟨λ_=>hall,λ_=>rfl⟩
def alI{c:jo}:dL prog 224 [.agg ⟨K4 c⟩] [] (.bool (decide (qg c))):=by
 refine gB 224 λB w0=>?_;refine go ?_;intro b1;iterate 13 (all_goals (first
  |(refine fE () (hv:=?_) (hp:=trivial);first
   |exact congrArg Value.bool (pJ.2 wx)
   |exact congrArg Value.bool (aY wx).symm
   |exact congrArg Value.bool (eB wx).symm)
  |(refine go ?_;first
   |with_reducible refine p9 (λ_=>?_) (λ_=>?_)
   |with_reducible refine oD (λ_=>?_) (λ_=>?_)
   |refine jC rfl ?_ ?_<;>intro _
   |skip)))
variable{r:bE}{v1 v2:ah}
def alJ:dL prog 225 [.agg ⟨kL r v1 v2⟩] [] (.bool (decide (1<=r.kind/\r.kind<=11))):=by
 refine gB 225 λB w0=>?_;refine go ?_;intro b1;refine gH ?_ ?_<;>intro h1
 .refine aM ?_;rw[aY (λh=>h1 tr)];rfl
 refine aM ?_;exact congrArg Value.bool (pJ.2 tr)
def alK(k:Int):(gy k).read=decide (1<=k/\k<=11):=by
 by_cases h:0<=k/\k<14
 .have hc:k=0\/k=1\/k=2\/k=3\/k=4\/k=5\/k=6\/k=7\/k=8\/k=9\/k=10\/k=11\/k=12\/k=13:=by omega
  rcases hc with rfl|rfl|rfl|rfl|rfl|rfl|rfl|rfl|rfl|rfl|rfl|rfl|rfl|rfl<;>rfl
 .rw[Ei tr,aY tr]
def alL(hl:d.rules.length<=4096):fC prog 137 [.agg ⟨gW d vh vs vr vc vu⟩] [aj bz vu d.rules] (λa:ak Addr=>.slice a (jJ d.rules).length (jJ d.rules).length) (λ_=>True):=by
 refine gB 137 λB w0=>?_;refine gF bz vu d.rules λa1 c1 e1=>?_;subst e1;refine go ?_;intro b1;refine gP b1 ?_;refine go ?_;refine iy ai ?_;refine dX (λy:Nat×ah=>d.rules.length - y.1) (λy=>[(4,iV (y.1:Int)),(3,y.2)]) (λy=>[ap ai y.2 (jJ (d.rules.take y.1))]) (λ_=>[]) (λy=>y.1<=d.rules.length/\(jJ (d.rules.take y.1)).length<=y.1) (0,.slice none 0 0) ⟨bP _,bQ _⟩ (hk:=tx) (body:=?_);rintro⟨k,v3⟩ ⟨hk,hkl⟩;dsimp only at hk hkl⊢;refine aB ?_ ?_<;>intro h1
 .refine gX bz (xs:=d.rules) λ_ _ x (vx:ah×ah) hx=>?_;have Cu:=XK hx;rw[alK]at Cu;refine gC (alJ (r:=x) (v1:=vx.1) (v2:=vx.2)) λ_ _=>?_;refine go ?_;refine fu rfl (λh2=>?_) (λh2=>?_)
  .rw[if_neg (by rw[aY h2];simp)]at Cu;refine go ?_;intro b21;refine go ?_;refine fI ai (xs:=jJ (d.rules.take k)) (k:Int) () tr (next:=λad=>?_);rw[<- Cu];refine go ?_;refine aQ (k+1,.slice ad ((jJ (d.rules.take k)).length+1) ((jJ (d.rules.take k)).length+1)) wv ⟨by show k+1<=_;omega,?_⟩;show(jJ (d.rules.take (k+1))).length<=k+1;rw[Cu,ik,vI];omega
  .rw[if_pos (eB h2),jd]at Cu;rw[<- Cu];refine go ?_;refine aQ (k+1,v3) wv ⟨by show k+1<=_;omega,?_⟩;show(jJ (d.rules.take (k+1))).length<=k+1;rw[Cu];omega
 have hke:k=d.rules.length:=tr
 subst hke;rw[bM];refine qR (E:=ai) (v:=v3) (xs:=jJ d.rules) λa3 e3=>?_;subst e3;refine go ?_;exact gQ a3 trivial
def LP(cs:ae jo)(r:bE)(kind:Int)(on:Bool):Prop:=0<=r.aX/\r.aX<cs.length/\∃c,cs[r.aX.toNat]? =some c/\c.type=kind/\(on=false\/c.family=r.family)
def sF{kind:Int}{on:Bool}(hcl:d.aR.length<=4096):
 fC prog 279 [.agg ⟨gW d vh vs vr vc vu⟩,.agg ⟨kL r v1 v2⟩,iV kind,.bool on] [aj bV vc d.aR] (λb:Bool=>.bool b) (λb=>b=true↔LP d.aR r kind on):=by
 refine gB 279 λB w0=>?_;refine gF bV vc d.aR λa1 c1 e1=>?_;subst e1;refine go ?_;intro b4 b5;refine gH ?_ ?_<;>intro h1
 rotate_left
 .exact gA
 refine aB ?_ ?_<;>intro h2
 .refine go ?_;exact gQ false ⟨(λh=>by cases h),λh=>by exfalso;have:=h.2.1;omega⟩
 obtain⟨k,hk⟩:=iO (show 0<=r.aX by omega);refine go ?_;rw[hk];refine OE bV (xs:=d.aR) (next:=λ_ _ c (_:Unit) hc=>?_);have hc':d.aR[r.aX.toNat]? =some c:=by rw[hk];exact hc
 have YN:∀c',d.aR[r.aX.toNat]? =some c'->c'=c:=λc' h=>by rw[hc']at h;exact(Option.some.inj h).symm
 refine go ?_;intro b9;refine gH ?_ ?_<;>intro h3
 .refine go ?_;exact gQ false ⟨(λh=>by cases h),λh=>by
   exfalso
   obtain⟨_,_,c',p1,p2,_⟩:=h;rw[YN c' p1]at p2;exact h3 p2⟩
 cases on with
 |false=>
  refine go ?_;exact gQ true ⟨λ_=>⟨tr,tr,c,hc',h3,.inl rfl⟩,λ_=>rfl⟩
 |true=>
  refine go ?_;refine gQ (decide (c.family=r.family)) ⟨λh=>⟨tr,tr,c,hc',h3,.inr (gT h)⟩,λh=>?_⟩;obtain⟨_,_,c',p1,p2,p3⟩:=h;rw[YN c' p1]at p3;exact eB (p3.resolve_left tt)
def YO(cs:ae jo)(r:bE):Prop:=(1<=r.op/\r.op<=3)/\((r.dB=qh/\(0<=r.n/\r.n<=65536)/\r.aX= -1)\/(r.dB≠qh/\r.n=0/\LP cs r 2 true))
def uk(hcl:d.aR.length<=4096):
 fC prog 278 [.agg ⟨gW d vh vs vr vc vu⟩,.agg ⟨kL r v1 v2⟩] [aj bV vc d.aR] (λb:Bool=>.bool b) (λb=>b=true↔YO d.aR r):=by
 refine gB 278 λB w0=>?_;refine go ?_;intro b2 b3;refine gH ?_ ?_<;>intro h1
 rotate_left
 .exact gA
 refine aB ?_ ?_<;>intro h2
 .exact gA
 refine go ?_;refine jS rfl (λh3=>?_) (λh3=>?_)
 .rw[ed]at h3;have h3:r.dB=qh:=gT h3;refine gH ?_ ?_<;>intro h4
  .exact j8
  refine gH ?_ ?_<;>intro h5
  .exact j8
  refine go ?_;exact gQ (decide (r.aX= -1)) ⟨λh=>⟨⟨tr,tr⟩,.inl ⟨h3,⟨tr,tr⟩,gT h⟩⟩,λh=>by
   rcases h.2 with⟨_,_,q⟩|⟨q,_⟩
   .exact eB q
   .exact absurd h3 q⟩
 .rw[ed]at h3;have h3:¬r.dB=qh:=ol h3;refine gH ?_ ?_<;>intro h4
  .refine go ?_;exact gQ false ⟨(λh=>by cases h),λh=>by
    exfalso
    rcases h.2 with⟨q,_⟩|⟨_,q,_⟩
    .exact h3 q
    .exact h4 q⟩
  refine gC (sF (d:=d) (r:=r) (kind:=2) (on:=true) (v1:=v1) (v2:=v2) hcl) λb hb=>?_;refine go ?_;exact gQ b ⟨λh=>⟨⟨tr,tr⟩,.inr ⟨h3,h4,hb.1 h⟩⟩,λh=>by
   rcases h.2 with⟨q,_⟩|⟨_,_,q⟩
   .exact absurd q h3
   .exact hb.2 q⟩
noncomputable def qW:=oQ prog 223
def sG:lD prog 223=some qW:=tv
abbrev kg(d:bG)(r:bE)(vh vs vr vc vu v1 v2:ah):Prop:=fC prog 223 [.agg ⟨gW d vh vs vr vc vu⟩,.agg ⟨kL r v1 v2⟩] [aj bV vc d.aR,aj aV v1 r.names,aj aV v2 r.others] (λb:Bool=>.bool b) (λb=>b=true↔wM (gy r.kind) d.aR r)
structure YP(x:Cf)(r:bE):Prop where
 on:(x.on=true↔r.on≠qh)
 jq:x.on=true\/r.family=0
 set:(x.set=true↔r.set≠0)
 names:x.set=true\/r.names=[]
 other:(x.other=true↔r.other≠0)
 others:x.other=true\/r.others=[]
structure alM(x:Cf)(r:bE):Prop where
 op:r.op=0
 n:x.free=true\/r.n=0
 dB:x.aX≠0\/(r.dB=qh/\r.aX= -1)
variable{x:Cf}{cs:ae jo}
def zn(hk:x.known=true)(ho:x.op=true)(hf:x.free=false)(hc:x.aX=0):wM x cs r↔YP x r/\YO cs r:=by
 constructor
 .rintro⟨q1,q2,q3,q4,q5,q6,q7,q8,q9,Cg,Ch,lM⟩;refine⟨⟨q2,q5,q3,q6,q4,q7⟩,q8.1 ho,?_⟩;by_cases hb:r.dB=qh
  .left;rcases lM 0 (by rw[if_neg (λh=>h.2 hb),hc])with⟨_,_,w⟩|⟨w,_⟩
   .exact⟨hb,Cg,w⟩
   .exact absurd rfl w
  .right;rcases lM 2 (by rw[if_pos ⟨ho,hb⟩])with⟨w,_⟩|⟨_,w1,w2,c,w3,w4,w5⟩
   .cases w
   .refine⟨hb,?_,w1,w2,c,w3,w4,.inr (w5.resolve_left tr)⟩;rcases Ch with h|⟨_,h⟩|h
    .rw[hf]at h;cases h
    .exact absurd h hb
    .exact h
 .rintro⟨⟨q2,q5,q3,q6,q4,q7⟩,p1,p2⟩;refine⟨hk,q2,q3,q4,q5,q6,q7,⟨λ_=>p1,λ_=>ho⟩,.inl ho,?_,?_,λneed hn=>?_⟩
  .rcases p2 with⟨_,h,_⟩|⟨_,h,_⟩
   .exact h
   .omega
  .rcases p2 with⟨h,_,_⟩|⟨_,h,_⟩
   .exact .inr (.inl ⟨ho,h⟩)
   .exact .inr (.inr h)
  .rcases p2 with⟨h,_,h2⟩|⟨h,_,w1,w2,c,w3,w4,w5⟩
   .rw[if_neg (λq=>q.2 h),hc]at hn;exact .inl ⟨hn,h,h2⟩
   .rw[if_pos ⟨ho,h⟩]at hn;exact .inr ⟨tr,w1,w2,c,w3,by rw[hn];exact w4,.inr (w5.resolve_left tt)⟩
def jV(hk:x.known=true)(ho:x.op=false)(hc:x.aX=0\/x.aX=1\/x.aX=3):wM x cs r↔YP x r/\alM x r/\(0<=r.n/\r.n<=65536)/\(x.aX=3->LP cs r 3 true)/\(x.aX=1->LP cs r 1 false):=by
 have hne:∀a b:Int,(if x.op=true/\r.dB≠qh then a else b)=b:=λa b=>if_neg (λh=>by rw[ho]at h;cases h.1);constructor
 .rintro⟨q1,q2,q3,q4,q5,q6,q7,q8,q9,Cg,Ch,lM⟩;have hop:r.op=0:=by rcases q9 with h|h;rw[ho]at h;cases h;exact h
  have lM:=lM x.aX (hne _ _).symm;refine⟨⟨q2,q5,q3,q6,q4,q7⟩,⟨hop,?_,?_⟩,Cg,λh=>?_,λh=>?_⟩
  .rcases Ch with h|⟨h,_⟩|h
   .exact .inl h
   .rw[ho]at h;cases h
   .exact .inr h
  .rcases lM with⟨_,w⟩|⟨w,_⟩
   .exact .inr w
   .exact .inl w
  .rcases lM with⟨w,_⟩|⟨_,w1,w2,c,w3,w4,w5⟩
   .omega
   .exact⟨w1,w2,c,w3,tr,.inr (w5.resolve_left tr)⟩
  .rcases lM with⟨w,_⟩|⟨_,w1,w2,c,w3,w4,w5⟩
   .omega
   .exact⟨w1,w2,c,w3,tr,.inl rfl⟩
 .rintro⟨⟨q2,q5,q3,q6,q4,q7⟩,⟨p1,p2,p3⟩,p4,p5,p6⟩;refine⟨hk,q2,q3,q4,q5,q6,q7,⟨(λh=>by rw[ho]at h;cases h),(λh=>by omega)⟩,.inr p1,p4,?_,λneed hn=>?_⟩
  .rcases p2 with h|h
   .exact .inl h
   .exact .inr (.inr h)
  .rw[hne]at hn;subst hn;rcases hc with h|h|h
   .exact .inl ⟨h,p3.resolve_left tr⟩
   .obtain⟨w1,w2,c,w3,w4,w5⟩:=p6 h;exact .inr ⟨tr,w1,w2,c,w3,tr,.inl h⟩
   .obtain⟨w1,w2,c,w3,w4,w5⟩:=p5 h;exact .inr ⟨tr,w1,w2,c,w3,tr,.inr (w5.resolve_left tt)⟩
def alN(hk:r.kind=1)(hcl:d.aR.length<=4096)(h1:r.names.length<2^63)(h2:r.others.length<2^63):kg d r vh vs vr vc vu v1 v2:=by
 obtain⟨rn,ja,rk,rf,di,dm,rs,jc,iK,iL,iM,iN⟩:=r;dsimp only at hk h1 h2;subst hk;dsimp only[kg];rw[show gy 1=⟨true,false,false,false,false,true,true,0⟩from tw];refine jH qW sG λB w0=>?_;refine gF aV v1 di λa1 c1 e1=>?_;subst e1;refine gF aV v2 dm λa2 c2 e2=>?_;subst e2;refine go ?_;intro b2 b3;iterate 16 (all_goals (first
  |(refine eO (uk (d:=d) (r:=⟨rn,ja,1,rf,di,dm,rs,jc,iK,iL,iM,iN⟩) (v1:=.slice a1 di.length c1) (v2:=.slice a2 dm.length c2) hcl) (next:=λbb hbb=>?_))
  |(refine eO (sF (d:=d) (r:=⟨rn,ja,1,rf,di,dm,rs,jc,iK,iL,iM,iN⟩) (v1:=.slice a1 di.length c1) (v2:=.slice a2 dm.length c2) hcl) (next:=λbb hbb=>?_))
  |(refine go ?_;first
   |with_reducible refine p9 (λ_=>?_) (λ_=>?_)
   |with_reducible refine oD (λ_=>?_) (λ_=>?_)
   |with_reducible refine mQ (λ_=>?_) (λ_=>?_)
   |refine jC rfl ?_ ?_<;>intro _
   |refine fu rfl (λ_=>?_) (λ_=>?_)
   |refine jS rfl (λ_=>?_) (λ_=>?_)
   |skip)))
 all_goals (try simp only[ed]at *)
 all_goals (first
  |(refine fE false (hv:=tw) (hp:=⟨(λh=>by cases h),λh=>?_⟩)
    exfalso
    rw[jV rfl rfl tA]at h;obtain⟨⟨q1,q2,q3,q4,q5,q6⟩,h7⟩:=h;dsimp only at q1 q2 q3 q4 q5 q6 h7;first
     |(simp_all;done)
     |(obtain⟨⟨p1,p2,p3⟩,p4,p5,p6⟩:=h7;dsimp only at p1 p2 p3 p4 p5 p6;first|(simp_all;done)|(simp_all;omega)|omega))
  |(refine fE true (hv:=tw) (hp:=⟨λ_=>?_,λ_=>rfl⟩)
    rw[jV rfl rfl tA];first
     |(refine⟨⟨?_,?_,?_,?_,?_,?_⟩,⟨?_,?_,?_⟩,?_,?_,?_⟩<;>dsimp only<;>first|(simp_all;done)|(simp_all;omega)|omega)
     |(refine⟨⟨?_,?_,?_,?_,?_,?_⟩,?_⟩<;>first|(simp_all;done)|(simp_all;omega)))
  |(refine fE bb (hv:=tw) (hp:=?_)
    rw[jV rfl rfl tA];constructor
    .exact bh
    .exact bj))
def alO(hk:r.kind=2)(hcl:d.aR.length<=4096)(h1:r.names.length<2^63)(h2:r.others.length<2^63):kg d r vh vs vr vc vu v1 v2:=by
 obtain⟨rn,ja,rk,rf,di,dm,rs,jc,iK,iL,iM,iN⟩:=r;dsimp only at hk h1 h2;subst hk;dsimp only[kg];rw[show gy 2=⟨true,true,false,true,false,true,true,0⟩from tw];refine jH qW sG λB w0=>?_;refine gF aV v1 di λa1 c1 e1=>?_;subst e1;refine gF aV v2 dm λa2 c2 e2=>?_;subst e2;refine go ?_;intro b2 b3;iterate 16 (all_goals (first
  |(refine eO (uk (d:=d) (r:=⟨rn,ja,2,rf,di,dm,rs,jc,iK,iL,iM,iN⟩) (v1:=.slice a1 di.length c1) (v2:=.slice a2 dm.length c2) hcl) (next:=λbb hbb=>?_))
  |(refine eO (sF (d:=d) (r:=⟨rn,ja,2,rf,di,dm,rs,jc,iK,iL,iM,iN⟩) (v1:=.slice a1 di.length c1) (v2:=.slice a2 dm.length c2) hcl) (next:=λbb hbb=>?_))
  |(refine go ?_;first
   |with_reducible refine p9 (λ_=>?_) (λ_=>?_)
   |with_reducible refine oD (λ_=>?_) (λ_=>?_)
   |with_reducible refine mQ (λ_=>?_) (λ_=>?_)
   |refine jC rfl ?_ ?_<;>intro _
   |refine fu rfl (λ_=>?_) (λ_=>?_)
   |refine jS rfl (λ_=>?_) (λ_=>?_)
   |skip)))
 all_goals (try simp only[ed]at *)
 all_goals (first
  |(refine fE false (hv:=tw) (hp:=⟨(λh=>by cases h),λh=>?_⟩)
    exfalso
    rw[zn rfl rfl rfl rfl]at h;obtain⟨⟨q1,q2,q3,q4,q5,q6⟩,h7⟩:=h;dsimp only at q1 q2 q3 q4 q5 q6 h7;first
     |(simp_all;done)
     |(obtain⟨⟨p1,p2,p3⟩,p4,p5,p6⟩:=h7;dsimp only at p1 p2 p3 p4 p5 p6;first|(simp_all;done)|(simp_all;omega)|omega))
  |(refine fE true (hv:=tw) (hp:=⟨λ_=>?_,λ_=>rfl⟩)
    rw[zn rfl rfl rfl rfl];first
     |(refine⟨⟨?_,?_,?_,?_,?_,?_⟩,⟨?_,?_,?_⟩,?_,?_,?_⟩<;>dsimp only<;>first|(simp_all;done)|(simp_all;omega)|omega)
     |(refine⟨⟨?_,?_,?_,?_,?_,?_⟩,?_⟩<;>first|(simp_all;done)|(simp_all;omega)))
  |(refine fE bb (hv:=tw) (hp:=?_)
    rw[zn rfl rfl rfl rfl];constructor
    .exact bh
    .exact bj))
def alP(hk:r.kind=3)(hcl:d.aR.length<=4096)(h1:r.names.length<2^63)(h2:r.others.length<2^63):kg d r vh vs vr vc vu v1 v2:=by
 obtain⟨rn,ja,rk,rf,di,dm,rs,jc,iK,iL,iM,iN⟩:=r;dsimp only at hk h1 h2;subst hk;dsimp only[kg];rw[show gy 3=⟨true,false,false,true,false,true,true,0⟩from tw];refine jH qW sG λB w0=>?_;refine gF aV v1 di λa1 c1 e1=>?_;subst e1;refine gF aV v2 dm λa2 c2 e2=>?_;subst e2;refine go ?_;intro b2 b3;iterate 16 (all_goals (first
  |(refine eO (uk (d:=d) (r:=⟨rn,ja,3,rf,di,dm,rs,jc,iK,iL,iM,iN⟩) (v1:=.slice a1 di.length c1) (v2:=.slice a2 dm.length c2) hcl) (next:=λbb hbb=>?_))
  |(refine eO (sF (d:=d) (r:=⟨rn,ja,3,rf,di,dm,rs,jc,iK,iL,iM,iN⟩) (v1:=.slice a1 di.length c1) (v2:=.slice a2 dm.length c2) hcl) (next:=λbb hbb=>?_))
  |(refine go ?_;first
   |with_reducible refine p9 (λ_=>?_) (λ_=>?_)
   |with_reducible refine oD (λ_=>?_) (λ_=>?_)
   |with_reducible refine mQ (λ_=>?_) (λ_=>?_)
   |refine jC rfl ?_ ?_<;>intro _
   |refine fu rfl (λ_=>?_) (λ_=>?_)
   |refine jS rfl (λ_=>?_) (λ_=>?_)
   |skip)))
 all_goals (try simp only[ed]at *)
 all_goals (first
  |(refine fE false (hv:=tw) (hp:=⟨(λh=>by cases h),λh=>?_⟩)
    exfalso
    rw[zn rfl rfl rfl rfl]at h;obtain⟨⟨q1,q2,q3,q4,q5,q6⟩,h7⟩:=h;dsimp only at q1 q2 q3 q4 q5 q6 h7;first
     |(simp_all;done)
     |(obtain⟨⟨p1,p2,p3⟩,p4,p5,p6⟩:=h7;dsimp only at p1 p2 p3 p4 p5 p6;first|(simp_all;done)|(simp_all;omega)|omega))
  |(refine fE true (hv:=tw) (hp:=⟨λ_=>?_,λ_=>rfl⟩)
    rw[zn rfl rfl rfl rfl];first
     |(refine⟨⟨?_,?_,?_,?_,?_,?_⟩,⟨?_,?_,?_⟩,?_,?_,?_⟩<;>dsimp only<;>first|(simp_all;done)|(simp_all;omega)|omega)
     |(refine⟨⟨?_,?_,?_,?_,?_,?_⟩,?_⟩<;>first|(simp_all;done)|(simp_all;omega)))
  |(refine fE bb (hv:=tw) (hp:=?_)
    rw[zn rfl rfl rfl rfl];constructor
    .exact bh
    .exact bj))
def alQ(hk:r.kind=4)(hcl:d.aR.length<=4096)(h1:r.names.length<2^63)(h2:r.others.length<2^63):kg d r vh vs vr vc vu v1 v2:=by
 obtain⟨rn,ja,rk,rf,di,dm,rs,jc,iK,iL,iM,iN⟩:=r;dsimp only at hk h1 h2;subst hk;dsimp only[kg];rw[show gy 4=⟨true,false,false,false,false,true,true,0⟩from tw];refine jH qW sG λB w0=>?_;refine gF aV v1 di λa1 c1 e1=>?_;subst e1;refine gF aV v2 dm λa2 c2 e2=>?_;subst e2;refine go ?_;intro b2 b3;iterate 16 (all_goals (first
  |(refine eO (uk (d:=d) (r:=⟨rn,ja,4,rf,di,dm,rs,jc,iK,iL,iM,iN⟩) (v1:=.slice a1 di.length c1) (v2:=.slice a2 dm.length c2) hcl) (next:=λbb hbb=>?_))
  |(refine eO (sF (d:=d) (r:=⟨rn,ja,4,rf,di,dm,rs,jc,iK,iL,iM,iN⟩) (v1:=.slice a1 di.length c1) (v2:=.slice a2 dm.length c2) hcl) (next:=λbb hbb=>?_))
  |(refine go ?_;first
   |with_reducible refine p9 (λ_=>?_) (λ_=>?_)
   |with_reducible refine oD (λ_=>?_) (λ_=>?_)
   |with_reducible refine mQ (λ_=>?_) (λ_=>?_)
   |refine jC rfl ?_ ?_<;>intro _
   |refine fu rfl (λ_=>?_) (λ_=>?_)
   |refine jS rfl (λ_=>?_) (λ_=>?_)
   |skip)))
 all_goals (try simp only[ed]at *)
 all_goals (first
  |(refine fE false (hv:=tw) (hp:=⟨(λh=>by cases h),λh=>?_⟩)
    exfalso
    rw[jV rfl rfl tA]at h;obtain⟨⟨q1,q2,q3,q4,q5,q6⟩,h7⟩:=h;dsimp only at q1 q2 q3 q4 q5 q6 h7;first
     |(simp_all;done)
     |(obtain⟨⟨p1,p2,p3⟩,p4,p5,p6⟩:=h7;dsimp only at p1 p2 p3 p4 p5 p6;first|(simp_all;done)|(simp_all;omega)|omega))
  |(refine fE true (hv:=tw) (hp:=⟨λ_=>?_,λ_=>rfl⟩)
    rw[jV rfl rfl tA];first
     |(refine⟨⟨?_,?_,?_,?_,?_,?_⟩,⟨?_,?_,?_⟩,?_,?_,?_⟩<;>dsimp only<;>first|(simp_all;done)|(simp_all;omega)|omega)
     |(refine⟨⟨?_,?_,?_,?_,?_,?_⟩,?_⟩<;>first|(simp_all;done)|(simp_all;omega)))
  |(refine fE bb (hv:=tw) (hp:=?_)
    rw[jV rfl rfl tA];constructor
    .exact bh
    .exact bj))
def alR(hk:r.kind=5)(hcl:d.aR.length<=4096)(h1:r.names.length<2^63)(h2:r.others.length<2^63):kg d r vh vs vr vc vu v1 v2:=by
 obtain⟨rn,ja,rk,rf,di,dm,rs,jc,iK,iL,iM,iN⟩:=r;dsimp only at hk h1 h2;subst hk;dsimp only[kg];rw[show gy 5=⟨true,true,false,false,false,true,true,3⟩from tw];refine jH qW sG λB w0=>?_;refine gF aV v1 di λa1 c1 e1=>?_;subst e1;refine gF aV v2 dm λa2 c2 e2=>?_;subst e2;refine go ?_;intro b2 b3;iterate 16 (all_goals (first
  |(refine eO (uk (d:=d) (r:=⟨rn,ja,5,rf,di,dm,rs,jc,iK,iL,iM,iN⟩) (v1:=.slice a1 di.length c1) (v2:=.slice a2 dm.length c2) hcl) (next:=λbb hbb=>?_))
  |(refine eO (sF (d:=d) (r:=⟨rn,ja,5,rf,di,dm,rs,jc,iK,iL,iM,iN⟩) (v1:=.slice a1 di.length c1) (v2:=.slice a2 dm.length c2) hcl) (next:=λbb hbb=>?_))
  |(refine go ?_;first
   |with_reducible refine p9 (λ_=>?_) (λ_=>?_)
   |with_reducible refine oD (λ_=>?_) (λ_=>?_)
   |with_reducible refine mQ (λ_=>?_) (λ_=>?_)
   |refine jC rfl ?_ ?_<;>intro _
   |refine fu rfl (λ_=>?_) (λ_=>?_)
   |refine jS rfl (λ_=>?_) (λ_=>?_)
   |skip)))
 all_goals (try simp only[ed]at *)
 all_goals (first
  |(refine fE false (hv:=tw) (hp:=⟨(λh=>by cases h),λh=>?_⟩)
    exfalso
    rw[jV rfl rfl tA]at h;obtain⟨⟨q1,q2,q3,q4,q5,q6⟩,h7⟩:=h;dsimp only at q1 q2 q3 q4 q5 q6 h7;first
     |(simp_all;done)
     |(obtain⟨⟨p1,p2,p3⟩,p4,p5,p6⟩:=h7;dsimp only at p1 p2 p3 p4 p5 p6;first|(simp_all;done)|(simp_all;omega)|omega))
  |(refine fE true (hv:=tw) (hp:=⟨λ_=>?_,λ_=>rfl⟩)
    rw[jV rfl rfl tA];first
     |(refine⟨⟨?_,?_,?_,?_,?_,?_⟩,⟨?_,?_,?_⟩,?_,?_,?_⟩<;>dsimp only<;>first|(simp_all;done)|(simp_all;omega)|omega)
     |(refine⟨⟨?_,?_,?_,?_,?_,?_⟩,?_⟩<;>first|(simp_all;done)|(simp_all;omega)))
  |(refine fE bb (hv:=tw) (hp:=?_)
    rw[jV rfl rfl tA];constructor
    .exact bh
    .exact bj))
def alS(hk:r.kind=6)(hcl:d.aR.length<=4096)(h1:r.names.length<2^63)(h2:r.others.length<2^63):kg d r vh vs vr vc vu v1 v2:=by
 obtain⟨rn,ja,rk,rf,di,dm,rs,jc,iK,iL,iM,iN⟩:=r;dsimp only at hk h1 h2;subst hk;dsimp only[kg];rw[show gy 6=⟨false,false,false,false,false,true,true,0⟩from tw];refine jH qW sG λB w0=>?_;refine gF aV v1 di λa1 c1 e1=>?_;subst e1;refine gF aV v2 dm λa2 c2 e2=>?_;subst e2;refine go ?_;intro b2 b3;iterate 16 (all_goals (first
  |(refine eO (uk (d:=d) (r:=⟨rn,ja,6,rf,di,dm,rs,jc,iK,iL,iM,iN⟩) (v1:=.slice a1 di.length c1) (v2:=.slice a2 dm.length c2) hcl) (next:=λbb hbb=>?_))
  |(refine eO (sF (d:=d) (r:=⟨rn,ja,6,rf,di,dm,rs,jc,iK,iL,iM,iN⟩) (v1:=.slice a1 di.length c1) (v2:=.slice a2 dm.length c2) hcl) (next:=λbb hbb=>?_))
  |(refine go ?_;first
   |with_reducible refine p9 (λ_=>?_) (λ_=>?_)
   |with_reducible refine oD (λ_=>?_) (λ_=>?_)
   |with_reducible refine mQ (λ_=>?_) (λ_=>?_)
   |refine jC rfl ?_ ?_<;>intro _
   |refine fu rfl (λ_=>?_) (λ_=>?_)
   |refine jS rfl (λ_=>?_) (λ_=>?_)
   |skip)))
 all_goals (try simp only[ed]at *)
 all_goals (first
  |(refine fE false (hv:=tw) (hp:=⟨(λh=>by cases h),λh=>?_⟩)
    exfalso
    rw[jV rfl rfl tA]at h;obtain⟨⟨q1,q2,q3,q4,q5,q6⟩,h7⟩:=h;dsimp only at q1 q2 q3 q4 q5 q6 h7;first
     |(simp_all;done)
     |(obtain⟨⟨p1,p2,p3⟩,p4,p5,p6⟩:=h7;dsimp only at p1 p2 p3 p4 p5 p6;first|(simp_all;done)|(simp_all;omega)|omega))
  |(refine fE true (hv:=tw) (hp:=⟨λ_=>?_,λ_=>rfl⟩)
    rw[jV rfl rfl tA];first
     |(refine⟨⟨?_,?_,?_,?_,?_,?_⟩,⟨?_,?_,?_⟩,?_,?_,?_⟩<;>dsimp only<;>first|(simp_all;done)|(simp_all;omega)|omega)
     |(refine⟨⟨?_,?_,?_,?_,?_,?_⟩,?_⟩<;>first|(simp_all;done)|(simp_all;omega)))
  |(refine fE bb (hv:=tw) (hp:=?_)
    rw[jV rfl rfl tA];constructor
    .exact bh
    .exact bj))
def alT(hk:r.kind=7)(hcl:d.aR.length<=4096)(h1:r.names.length<2^63)(h2:r.others.length<2^63):kg d r vh vs vr vc vu v1 v2:=by
 obtain⟨rn,ja,rk,rf,di,dm,rs,jc,iK,iL,iM,iN⟩:=r;dsimp only at hk h1 h2;subst hk;dsimp only[kg];rw[show gy 7=⟨false,false,false,false,true,true,true,0⟩from tw];refine jH qW sG λB w0=>?_;refine gF aV v1 di λa1 c1 e1=>?_;subst e1;refine gF aV v2 dm λa2 c2 e2=>?_;subst e2;refine go ?_;intro b2 b3;iterate 16 (all_goals (first
  |(refine eO (uk (d:=d) (r:=⟨rn,ja,7,rf,di,dm,rs,jc,iK,iL,iM,iN⟩) (v1:=.slice a1 di.length c1) (v2:=.slice a2 dm.length c2) hcl) (next:=λbb hbb=>?_))
  |(refine eO (sF (d:=d) (r:=⟨rn,ja,7,rf,di,dm,rs,jc,iK,iL,iM,iN⟩) (v1:=.slice a1 di.length c1) (v2:=.slice a2 dm.length c2) hcl) (next:=λbb hbb=>?_))
  |(refine go ?_;first
   |with_reducible refine p9 (λ_=>?_) (λ_=>?_)
   |with_reducible refine oD (λ_=>?_) (λ_=>?_)
   |with_reducible refine mQ (λ_=>?_) (λ_=>?_)
   |refine jC rfl ?_ ?_<;>intro _
   |refine fu rfl (λ_=>?_) (λ_=>?_)
   |refine jS rfl (λ_=>?_) (λ_=>?_)
   |skip)))
 all_goals (try simp only[ed]at *)
 all_goals (first
  |(refine fE false (hv:=tw) (hp:=⟨(λh=>by cases h),λh=>?_⟩)
    exfalso
    rw[jV rfl rfl tA]at h;obtain⟨⟨q1,q2,q3,q4,q5,q6⟩,h7⟩:=h;dsimp only at q1 q2 q3 q4 q5 q6 h7;first
     |(simp_all;done)
     |(obtain⟨⟨p1,p2,p3⟩,p4,p5,p6⟩:=h7;dsimp only at p1 p2 p3 p4 p5 p6;first|(simp_all;done)|(simp_all;omega)|omega))
  |(refine fE true (hv:=tw) (hp:=⟨λ_=>?_,λ_=>rfl⟩)
    rw[jV rfl rfl tA];first
     |(refine⟨⟨?_,?_,?_,?_,?_,?_⟩,⟨?_,?_,?_⟩,?_,?_,?_⟩<;>dsimp only<;>first|(simp_all;done)|(simp_all;omega)|omega)
     |(refine⟨⟨?_,?_,?_,?_,?_,?_⟩,?_⟩<;>first|(simp_all;done)|(simp_all;omega)))
  |(refine fE bb (hv:=tw) (hp:=?_)
    rw[jV rfl rfl tA];constructor
    .exact bh
    .exact bj))
