/- Part. -/
import Derived.Test.YtignbinlipkmfaaGreatDoorLibTR
import Derived.Test.YtignbinlipkmfaaGreatDoorLibUR
import Derived.Test.YtignbinlipkmfaaGreatDoorLibGR
set_option linter.all false
set_option maxRecDepth 10000
set_option maxHeartbeats 4000000
namespace Go.Proofs.YtignbinlipkmfaaGreatDoor
open Tryz (prog)
open Go.Ideal Kd
abbrev Dj(a b:ae Int):Prop:=(∀x∈a,x∈b)/\∀x∈b,x∈a
def asZ{va vb:ah}{xs ys:ae Int}(hx:xs.length<2^63)(hy:ys.length<2^63):dF prog 222 [va,vb] [aj ai va xs,aj ai vb ys] (.bool (decide (Dj xs ys))):=by
 refine gB 222 λB w0=>?_;refine gF ai va xs λa1 c1 e1=>?_;subst e1;refine gF ai vb ys λa2 c2 e2=>?_;subst e2;refine gN xs.length 5 (λk=>k<=xs.length/\∀x∈xs.take k,x∈ys) ⟨tf,tg⟩ ?_;rintro k ⟨hk,hall⟩;refine aC ?_ ?_<;>intro h1
 .refine go ?_;intro _ _ x hx;refine gC (Qn (xs:=ys) (z:=x) tf) λ_ _=>?_;refine go ?_;refine fP rfl (λh2=>?_) (λh2=>?_)
  .refine aP ?_;rw[aW (λh:Dj xs ys=>h2 (h.1 x (aU hx)))];rfl
  exact js
 have hkl:k=xs.length:=tf
 subst hkl;rw[bP]at hall;have as0:=hall;clear hall hk h1;refine gN ys.length 6 (λk=>k<=ys.length/\∀x∈ys.take k,x∈xs) ⟨tf,tg⟩ ?_;rintro k ⟨hk,hall⟩;refine aC ?_ ?_<;>intro h1
 .refine go ?_;intro _ _ x hx;refine gC (Qn (xs:=xs) (z:=x) tf) λ_ _=>?_;refine go ?_;refine fP rfl (λh2=>?_) (λh2=>?_)
  .refine aP ?_;rw[aW (λh:Dj xs ys=>h2 (h.2 x (aU hx)))];rfl
  exact js
 have hkl:k=ys.length:=tf
 subst hkl;rw[bP]at hall;refine aP ?_;rw[dQ (show Dj xs ys from⟨as0,hall⟩)];rfl
variable{g:bA}
def as3{ps:ae Int}(h:Cz g ps):ps.Nodup:=by
 have:=h.nd;unfold List.Nodup at this⊢;rw[yV]at this;exact this.imp λh e=>h we
def adQ{a b:ae Int}(ha:a.Nodup)(hb:b.Nodup):Dj a b↔cK a=cK b:=by
 constructor
 .rintro⟨h1,h2⟩;exact aax ((List.perm_ext_iff_of_nodup ha hb).2 λx=>⟨h1 x,h2 x⟩)
 .intro h;exact⟨λx hx=>by rw[<- yB,<- h,yB];exact hx,λx hx=>by rw[<- yB,h,yB];exact hx⟩
def as4{ls:ae (ae Int)}(hn:∀l∈ls,l.Nodup):(ls.map cK).Nodup↔∀(i j:Nat) a b,j<i->ls[i]? =some a->ls[j]? =some b->¬Dj a b:=by
 rw[List.nodup_iff_pairwise_ne,yV,xI];constructor
 .intro h i j a b hij ha hb hk;obtain⟨hi,rfl⟩:=bJ.1 ha;obtain⟨hj,rfl⟩:=bJ.1 hb;exact h j i hj hi hij ((adQ (hn _ (rY hi)) (hn _ (rY hj))).1 hk).symm
 .intro h j i hj hi hij e;exact h i j ls[i] ls[j] hij (bY hi) (bY hj) ((adQ (hn _ (rY hi)) (hn _ (rY hj))).2 e.symm)
variable{d:bK}{vh vs vr vc vu:ah}
def as5{gh gc:ah}(hS:pI d)(hG:rR g):
 fC prog 135 [.agg ⟨iD d vh vs vr vc vu⟩,.agg ⟨iW g gh gc⟩] (aj fw vr d.regions::jU g gh gc) (λe:Int=>iV e) (λe=>e=0↔∀r∈d.regions,CR g r):=by
 have hrl:=hS.regs;have hre:=hS.uG;refine gB 135 λB w0=>?_;refine gF fw vr d.regions λa1 c1 e1=>?_;subst e1;refine go ?_;intro b2 b3;refine gP b2 ?_;refine gP b3 ?_;refine gN d.regions.length 5 (λk=>k<=d.regions.length/\∀r∈d.regions.take k,CR g r) ⟨tf,tg⟩ ?_;rintro k ⟨hk,hall⟩;refine aC ?_ ?_<;>intro h1
 .refine gX fw (xs:=d.regions) λ_ _ r (vl:ah) hr=>?_;have hrm:=aU hr;have hrx:=hre r hrm;generalize hls:r.lists=ls at hrx;refine gF (ay ai) vl ls λal cl el=>?_;subst el;refine gC (adD (g:=g) (rs:=ls) hG hrx.1 hrx.2) λy hy=>?_;obtain⟨v7,e⟩:=y;dsimp only at hy⊢;refine aC ?_ ?_<;>intro h2
  .refine go ?_;exact gQ e ⟨λh=>absurd h h2,λh=>by exfalso;have:=h r hrm;exact h2 (hy.2 (by rw[<- hls];exact this.1))⟩
  have he:e=0:=iX.1 h2;obtain⟨hg,hro⟩:=hy.1 he;subst he;clear hy h2;have hnd:∀l∈ls,l.Nodup:=λl hl=>as3 (hro.all l hl);have htw:=as4 hnd;refine gN ls.length 9 (λi=>i<=ls.length/\∀(i' j:Nat) a b,i'<i->j<i'->ls[i']? =some a->ls[j]? =some b->¬Dj a b) ⟨tf,λi' j a b h=>by omega⟩ ?_;rintro i ⟨hi,hin⟩;refine aC ?_ ?_<;>intro h3
  .obtain⟨a,ha⟩:∃a,ls[i]? =some a:=⟨ls[i]'(tf),bY _⟩
   have hal:=hrx.2 a (aU ha);refine gN i 10 (λj=>j<=i/\∀(j':Nat) b,j'<j->ls[j']? =some b->¬Dj a b) ⟨tf,λj' b h=>by omega⟩ ?_;rintro j ⟨hj,hjn⟩;refine aC ?_ ?_<;>intro h4
   .refine gX (ay ai) (xs:=ls) λ_ _ a' (_:ah) ha'=>?_;cases ha.symm.trans ha';refine gX (ay ai) (xs:=ls) λ_ _ b (_:ah) hb=>?_;have hbl:=hrx.2 b (aU hb);refine gC (asZ (xs:=a) (ys:=b) hal hbl) λ_ _=>?_;refine aC ?_ ?_<;>intro h5
    .refine go ?_;exact gQ 161 ⟨(λh=>by cases h),λh=>by
      exfalso
      have h6:=(h r hrm).2;rw[hls]at h6;exact htw.1 h6 i j a b tf ha hb h5⟩
    refine go ?_;refine aO (j+1) tf ⟨tf,λj' b' hj' hb'=>?_⟩;by_cases e:j'=j
    .subst e;rw[hb]at hb';cases hb';exact h5
    .exact hjn j' b' tf hb'
   have hji:j=i:=tf
   subst hji;refine go ?_;refine aO (j+1) tf ⟨tf,λi' j' a' b' hi' hj' ha' hb'=>?_⟩;by_cases e:i'=j
   .subst e;rw[ha]at ha';cases ha';exact hjn j' b' hj' hb'
   .exact hin i' j' a' b' tf hj' ha' hb'
  have hil:i=ls.length:=tf
  subst hil;have hR:CR g r:=⟨⟨hg,by rw[hls];exact hro⟩,by rw[hls];exact htw.2 λi j a b hij ha hb=>hin i j a b (bJ.1 ha).1 hij ha hb⟩
  refine go ?_;refine aO (k+1) tf ⟨tf,?_⟩;rw[bU hr];intro z hz;rcases eP.1 hz with hz|hz
  .exact hall z hz
  .rw[bS.1 hz];exact hR
 have hkl:k=d.regions.length:=tf
 subst hkl;rw[bP]at hall;refine go ?_;exact gQ 0 ⟨λ_=>hall,λ_=>rfl⟩
def as6{c:iT}:dF prog 224 [.agg ⟨Py c⟩] [] (.bool (decide (qG c))):=by
 refine gB 224 λB w0=>?_;refine go ?_;intro b1;iterate 13 (all_goals (first
  |(refine fu () (hv:=?_) (hp:=trivial);first
   |exact congrArg Value.bool (qx.2 wk)
   |exact congrArg Value.bool (aW wk).symm
   |exact congrArg Value.bool (dQ wk).symm)
  |(refine go ?_;first
   |with_reducible refine qW (λ_=>?_) (λ_=>?_)
   |with_reducible refine ql (λ_=>?_) (λ_=>?_)
   |refine kW rfl ?_ ?_<;>intro _
   |skip)))
variable{r:bE}{v1 v2:ah}
def as7:dF prog 225 [.agg ⟨mg r v1 v2⟩] [] (.bool (decide (1<=r.kind/\r.kind<=11))):=by
 refine gB 225 λB w0=>?_;refine go ?_;intro b1;refine gH ?_ ?_<;>intro h1
 .refine aP ?_;rw[aW (λh=>h1 tf)];rfl
 refine aP ?_;exact congrArg Value.bool (qx.2 tf)
def as8(k:Int):(fK k).read=decide (1<=k/\k<=11):=by
 by_cases h:0<=k/\k<14
 .have hc:k=0\/k=1\/k=2\/k=3\/k=4\/k=5\/k=6\/k=7\/k=8\/k=9\/k=10\/k=11\/k=12\/k=13:=by omega
  rcases hc with rfl|rfl|rfl|rfl|rfl|rfl|rfl|rfl|rfl|rfl|rfl|rfl|rfl|rfl<;>rfl
 .rw[G6 tf,aW tf]
def as9(hl:d.rules.length<=4096):fC prog 137 [.agg ⟨iD d vh vs vr vc vu⟩] [aj bi vu d.rules] (λa:ak Addr=>.slice a (jI d.rules).length (jI d.rules).length) (λ_=>True):=by
 refine gB 137 λB w0=>?_;refine gF bi vu d.rules λa1 c1 e1=>?_;subst e1;refine go ?_;intro b1;refine gP b1 ?_;refine go ?_;refine gK ai ?_;refine di (λy:Nat×ah=>d.rules.length - y.1) (λy=>[(4,iV (y.1:Int)),(3,y.2)]) (λy=>[ap ai y.2 (jI (d.rules.take y.1))]) (λ_=>[]) (λy=>y.1<=d.rules.length/\(jI (d.rules.take y.1)).length<=y.1) (0,.slice none 0 0) ⟨bH _,bI _⟩ (hk:=tj) (body:=?_);rintro⟨k,v3⟩ ⟨hk,hkl⟩;dsimp only at hk hkl⊢;refine aC ?_ ?_<;>intro h1
 .refine gX bi (xs:=d.rules) λ_ _ x (vx:ah×ah) hx=>?_;have E9:=abX hx;rw[as8]at E9;refine gC (as7 (r:=x) (v1:=vx.1) (v2:=vx.2)) λ_ _=>?_;refine go ?_;refine fP rfl (λh2=>?_) (λh2=>?_)
  .rw[if_neg (by rw[aW h2];simp)]at E9;refine go ?_;intro b21;refine go ?_;refine fJ ai (xs:=jI (d.rules.take k)) (k:Int) () tf (next:=λad=>?_);rw[<- E9];refine go ?_;refine aO (k+1,.slice ad ((jI (d.rules.take k)).length+1) ((jI (d.rules.take k)).length+1)) wj ⟨by show k+1<=_;omega,?_⟩;show(jI (d.rules.take (k+1))).length<=k+1;rw[E9,fV,BD];omega
  .rw[if_pos (dQ h2),iE]at E9;rw[<- E9];refine go ?_;refine aO (k+1,v3) wj ⟨by show k+1<=_;omega,?_⟩;show(jI (d.rules.take (k+1))).length<=k+1;rw[E9];omega
 have hke:k=d.rules.length:=tf
 subst hke;rw[bP];refine sZ (E:=ai) (v:=v3) (xs:=jI d.rules) λa3 e3=>?_;subst e3;refine go ?_;exact gQ a3 trivial
def Qu(cs:ae iT)(r:bE)(kind:Int)(on:Bool):Prop:=0<=r.aS/\r.aS<cs.length/\∃c,cs[r.aS.toNat]? =some c/\c.type=kind/\(on=false\/c.family=r.family)
def uP{kind:Int}{on:Bool}(hcl:d.aQ.length<=4096):
 fC prog 279 [.agg ⟨iD d vh vs vr vc vu⟩,.agg ⟨mg r v1 v2⟩,iV kind,.bool on] [aj bZ vc d.aQ] (λb:Bool=>.bool b) (λb=>b=true↔Qu d.aQ r kind on):=by
 refine gB 279 λB w0=>?_;refine gF bZ vc d.aQ λa1 c1 e1=>?_;subst e1;refine go ?_;intro b4 b5;refine gH ?_ ?_<;>intro h1
 rotate_left
 .exact ir
 refine aC ?_ ?_<;>intro h2
 .refine go ?_;exact gQ false ⟨(λh=>by cases h),λh=>by exfalso;have:=h.2.1;omega⟩
 obtain⟨k,hk⟩:=jK (show 0<=r.aS by omega);refine go ?_;rw[hk];refine Td bZ (xs:=d.aQ) (next:=λ_ _ c (_:Unit) hc=>?_);have hc':d.aQ[r.aS.toNat]? =some c:=by rw[hk];exact hc
 have huq:∀c',d.aQ[r.aS.toNat]? =some c'->c'=c:=λc' h=>by rw[hc']at h;exact(Option.some.inj h).symm
 refine go ?_;intro b9;refine gH ?_ ?_<;>intro h3
 .refine go ?_;exact gQ false ⟨(λh=>by cases h),λh=>by
   exfalso
   obtain⟨_,_,c',p1,p2,_⟩:=h;rw[huq c' p1]at p2;exact h3 p2⟩
 cases on with
 |false=>
  refine go ?_;exact gQ true ⟨λ_=>⟨tf,tf,c,hc',h3,.inl rfl⟩,λ_=>rfl⟩
 |true=>
  refine go ?_;refine gQ (decide (c.family=r.family)) ⟨λh=>⟨tf,tf,c,hc',h3,.inr (iN h)⟩,λh=>?_⟩;obtain⟨_,_,c',p1,p2,p3⟩:=h;rw[huq c' p1]at p3;exact dQ (p3.resolve_left tg)
def adT(cs:ae iT)(r:bE):Prop:=(1<=r.op/\r.op<=3)/\((r.dm=qm/\(0<=r.n/\r.n<=65536)/\r.aS= -1)\/(r.dm≠qm/\r.n=0/\Qu cs r 2 true))
def vW(hcl:d.aQ.length<=4096):
 fC prog 278 [.agg ⟨iD d vh vs vr vc vu⟩,.agg ⟨mg r v1 v2⟩] [aj bZ vc d.aQ] (λb:Bool=>.bool b) (λb=>b=true↔adT d.aQ r):=by
 refine gB 278 λB w0=>?_;refine go ?_;intro b2 b3;refine gH ?_ ?_<;>intro h1
 rotate_left
 .exact ir
 refine aC ?_ ?_<;>intro h2
 .exact ir
 refine go ?_;refine kX rfl (λh3=>?_) (λh3=>?_)
 .rw[eZ]at h3;have h3:r.dm=qm:=iN h3;refine gH ?_ ?_<;>intro h4
  .exact lj
  refine gH ?_ ?_<;>intro h5
  .exact lj
  refine go ?_;exact gQ (decide (r.aS= -1)) ⟨λh=>⟨⟨tf,tf⟩,.inl ⟨h3,⟨tf,tf⟩,iN h⟩⟩,λh=>by
   rcases h.2 with⟨_,_,q⟩|⟨q,_⟩
   .exact dQ q
   .exact absurd h3 q⟩
 .rw[eZ]at h3;have h3:¬r.dm=qm:=ou h3;refine gH ?_ ?_<;>intro h4
  .refine go ?_;exact gQ false ⟨(λh=>by cases h),λh=>by
    exfalso
    rcases h.2 with⟨q,_⟩|⟨_,q,_⟩
    .exact h3 q
    .exact h4 q⟩
  refine gC (uP (d:=d) (r:=r) (kind:=2) (on:=true) (v1:=v1) (v2:=v2) hcl) λb hb=>?_;refine go ?_;exact gQ b ⟨λh=>⟨⟨tf,tf⟩,.inr ⟨h3,h4,hb.1 h⟩⟩,λh=>by
   rcases h.2 with⟨q,_⟩|⟨_,_,q⟩
   .exact absurd q h3
   .exact hb.2 q⟩
noncomputable def tJ:=qd prog 223
def uQ:lF prog 223=some tJ:=th
abbrev kK(d:bK)(r:bE)(vh vs vr vc vu v1 v2:ah):Prop:=fC prog 223 [.agg ⟨iD d vh vs vr vc vu⟩,.agg ⟨mg r v1 v2⟩] [aj bZ vc d.aQ,aj aX v1 r.names,aj aX v2 r.others] (λb:Bool=>.bool b) (λb=>b=true↔yJ (fK r.kind) d.aQ r)
structure adU(x:EJ)(r:bE):Prop where
 on:(x.on=true↔r.on≠qm)
 jL:x.on=true\/r.family=0
 set:(x.set=true↔r.set≠0)
 names:x.set=true\/r.names=[]
 other:(x.other=true↔r.other≠0)
 others:x.other=true\/r.others=[]
structure ata(x:EJ)(r:bE):Prop where
 op:r.op=0
 n:x.free=true\/r.n=0
 dm:x.aS≠0\/(r.dm=qm/\r.aS= -1)
variable{x:EJ}{cs:ae iT}
def Br(hk:x.known=true)(ho:x.op=true)(hf:x.free=false)(hc:x.aS=0):yJ x cs r↔adU x r/\adT cs r:=by
 constructor
 .rintro⟨q1,q2,q3,q4,q5,q6,q7,q8,q9,EK,EL,mq⟩;refine⟨⟨q2,q5,q3,q6,q4,q7⟩,q8.1 ho,?_⟩;by_cases hb:r.dm=qm
  .left;rcases mq 0 (by rw[if_neg (λh=>h.2 hb),hc])with⟨_,_,w⟩|⟨w,_⟩
   .exact⟨hb,EK,w⟩
   .exact absurd rfl w
  .right;rcases mq 2 (by rw[if_pos ⟨ho,hb⟩])with⟨w,_⟩|⟨_,w1,w2,c,w3,w4,w5⟩
   .cases w
   .refine⟨hb,?_,w1,w2,c,w3,w4,.inr (w5.resolve_left tf)⟩;rcases EL with h|⟨_,h⟩|h
    .rw[hf]at h;cases h
    .exact absurd h hb
    .exact h
 .rintro⟨⟨q2,q5,q3,q6,q4,q7⟩,p1,p2⟩;refine⟨hk,q2,q3,q4,q5,q6,q7,⟨λ_=>p1,λ_=>ho⟩,.inl ho,?_,?_,λneed hn=>?_⟩
  .rcases p2 with⟨_,h,_⟩|⟨_,h,_⟩
   .exact h
   .omega
  .rcases p2 with⟨h,_,_⟩|⟨_,h,_⟩
   .exact .inr (.inl ⟨ho,h⟩)
   .exact .inr (.inr h)
  .rcases p2 with⟨h,_,h2⟩|⟨h,_,w1,w2,c,w3,w4,w5⟩
   .rw[if_neg (λq=>q.2 h),hc]at hn;exact .inl ⟨hn,h,h2⟩
   .rw[if_pos ⟨ho,h⟩]at hn;exact .inr ⟨tf,w1,w2,c,w3,by rw[hn];exact w4,.inr (w5.resolve_left tg)⟩
def ku(hk:x.known=true)(ho:x.op=false)(hc:x.aS=0\/x.aS=1\/x.aS=3):yJ x cs r↔adU x r/\ata x r/\(0<=r.n/\r.n<=65536)/\(x.aS=3->Qu cs r 3 true)/\(x.aS=1->Qu cs r 1 false):=by
 have hne:∀a b:Int,(if x.op=true/\r.dm≠qm then a else b)=b:=λa b=>if_neg (λh=>by rw[ho]at h;cases h.1);constructor
 .rintro⟨q1,q2,q3,q4,q5,q6,q7,q8,q9,EK,EL,mq⟩;have hop:r.op=0:=by rcases q9 with h|h;rw[ho]at h;cases h;exact h
  have mq:=mq x.aS (hne _ _).symm;refine⟨⟨q2,q5,q3,q6,q4,q7⟩,⟨hop,?_,?_⟩,EK,λh=>?_,λh=>?_⟩
  .rcases EL with h|⟨h,_⟩|h
   .exact .inl h
   .rw[ho]at h;cases h
   .exact .inr h
  .rcases mq with⟨_,w⟩|⟨w,_⟩
   .exact .inr w
   .exact .inl w
  .rcases mq with⟨w,_⟩|⟨_,w1,w2,c,w3,w4,w5⟩
   .omega
   .exact⟨w1,w2,c,w3,tf,.inr (w5.resolve_left tf)⟩
  .rcases mq with⟨w,_⟩|⟨_,w1,w2,c,w3,w4,w5⟩
   .omega
   .exact⟨w1,w2,c,w3,tf,.inl rfl⟩
 .rintro⟨⟨q2,q5,q3,q6,q4,q7⟩,⟨p1,p2,p3⟩,p4,p5,p6⟩;refine⟨hk,q2,q3,q4,q5,q6,q7,⟨(λh=>by rw[ho]at h;cases h),(λh=>by omega)⟩,.inr p1,p4,?_,λneed hn=>?_⟩
  .rcases p2 with h|h
   .exact .inl h
   .exact .inr (.inr h)
  .rw[hne]at hn;subst hn;rcases hc with h|h|h
   .exact .inl ⟨h,p3.resolve_left tf⟩
   .obtain⟨w1,w2,c,w3,w4,w5⟩:=p6 h;exact .inr ⟨tf,w1,w2,c,w3,tf,.inl h⟩
   .obtain⟨w1,w2,c,w3,w4,w5⟩:=p5 h;exact .inr ⟨tf,w1,w2,c,w3,tf,.inr (w5.resolve_left tg)⟩
def atb(hk:r.kind=1)(hcl:d.aQ.length<=4096)(h1:r.names.length<2^63)(h2:r.others.length<2^63):kK d r vh vs vr vc vu v1 v2:=by
 obtain⟨rn,jm,rk,rf,dI,dJ,rs,jo,ja,jc,jd,je⟩:=r;dsimp only at hk h1 h2;subst hk;dsimp only[kK];rw[show fK 1=⟨true,false,false,false,false,true,true,0⟩from tn];refine jD tJ uQ λB w0=>?_;refine gF aX v1 dI λa1 c1 e1=>?_;subst e1;refine gF aX v2 dJ λa2 c2 e2=>?_;subst e2;refine go ?_;intro b2 b3;iterate 16 (all_goals (first
  |(refine fD (vW (d:=d) (r:=⟨rn,jm,1,rf,dI,dJ,rs,jo,ja,jc,jd,je⟩) (v1:=.slice a1 dI.length c1) (v2:=.slice a2 dJ.length c2) hcl) (next:=λbb hbb=>?_))
  |(refine fD (uP (d:=d) (r:=⟨rn,jm,1,rf,dI,dJ,rs,jo,ja,jc,jd,je⟩) (v1:=.slice a1 dI.length c1) (v2:=.slice a2 dJ.length c2) hcl) (next:=λbb hbb=>?_))
  |(refine go ?_;first
   |with_reducible refine qW (λ_=>?_) (λ_=>?_)
   |with_reducible refine ql (λ_=>?_) (λ_=>?_)
   |with_reducible refine nW (λ_=>?_) (λ_=>?_)
   |refine kW rfl ?_ ?_<;>intro _
   |refine fP rfl (λ_=>?_) (λ_=>?_)
   |refine kX rfl (λ_=>?_) (λ_=>?_)
   |skip)))
 all_goals (try simp only[eZ]at *)
 all_goals (first
  |(refine fu false (hv:=tn) (hp:=⟨(λh=>by cases h),λh=>?_⟩)
    exfalso
    rw[ku rfl rfl tr]at h;obtain⟨⟨q1,q2,q3,q4,q5,q6⟩,h7⟩:=h;dsimp only at q1 q2 q3 q4 q5 q6 h7;first
     |(simp_all;done)
     |(obtain⟨⟨p1,p2,p3⟩,p4,p5,p6⟩:=h7;dsimp only at p1 p2 p3 p4 p5 p6;first|(simp_all;done)|(simp_all;omega)|omega))
  |(refine fu true (hv:=tn) (hp:=⟨λ_=>?_,λ_=>rfl⟩)
    rw[ku rfl rfl tr];first
     |(refine⟨⟨?_,?_,?_,?_,?_,?_⟩,⟨?_,?_,?_⟩,?_,?_,?_⟩<;>dsimp only<;>first|(simp_all;done)|(simp_all;omega)|omega)
     |(refine⟨⟨?_,?_,?_,?_,?_,?_⟩,?_⟩<;>first|(simp_all;done)|(simp_all;omega)))
  |(refine fu bb (hv:=tn) (hp:=?_)
    rw[ku rfl rfl tr];constructor
    .exact bj
    .exact ck))
def atc(hk:r.kind=2)(hcl:d.aQ.length<=4096)(h1:r.names.length<2^63)(h2:r.others.length<2^63):kK d r vh vs vr vc vu v1 v2:=by
 obtain⟨rn,jm,rk,rf,dI,dJ,rs,jo,ja,jc,jd,je⟩:=r;dsimp only at hk h1 h2;subst hk;dsimp only[kK];rw[show fK 2=⟨true,true,false,true,false,true,true,0⟩from tn];refine jD tJ uQ λB w0=>?_;refine gF aX v1 dI λa1 c1 e1=>?_;subst e1;refine gF aX v2 dJ λa2 c2 e2=>?_;subst e2;refine go ?_;intro b2 b3;iterate 16 (all_goals (first
  |(refine fD (vW (d:=d) (r:=⟨rn,jm,2,rf,dI,dJ,rs,jo,ja,jc,jd,je⟩) (v1:=.slice a1 dI.length c1) (v2:=.slice a2 dJ.length c2) hcl) (next:=λbb hbb=>?_))
  |(refine fD (uP (d:=d) (r:=⟨rn,jm,2,rf,dI,dJ,rs,jo,ja,jc,jd,je⟩) (v1:=.slice a1 dI.length c1) (v2:=.slice a2 dJ.length c2) hcl) (next:=λbb hbb=>?_))
  |(refine go ?_;first
   |with_reducible refine qW (λ_=>?_) (λ_=>?_)
   |with_reducible refine ql (λ_=>?_) (λ_=>?_)
   |with_reducible refine nW (λ_=>?_) (λ_=>?_)
   |refine kW rfl ?_ ?_<;>intro _
   |refine fP rfl (λ_=>?_) (λ_=>?_)
   |refine kX rfl (λ_=>?_) (λ_=>?_)
   |skip)))
 all_goals (try simp only[eZ]at *)
 all_goals (first
  |(refine fu false (hv:=tn) (hp:=⟨(λh=>by cases h),λh=>?_⟩)
    exfalso
    rw[Br rfl rfl rfl rfl]at h;obtain⟨⟨q1,q2,q3,q4,q5,q6⟩,h7⟩:=h;dsimp only at q1 q2 q3 q4 q5 q6 h7;first
     |(simp_all;done)
     |(obtain⟨⟨p1,p2,p3⟩,p4,p5,p6⟩:=h7;dsimp only at p1 p2 p3 p4 p5 p6;first|(simp_all;done)|(simp_all;omega)|omega))
  |(refine fu true (hv:=tn) (hp:=⟨λ_=>?_,λ_=>rfl⟩)
    rw[Br rfl rfl rfl rfl];first
     |(refine⟨⟨?_,?_,?_,?_,?_,?_⟩,⟨?_,?_,?_⟩,?_,?_,?_⟩<;>dsimp only<;>first|(simp_all;done)|(simp_all;omega)|omega)
     |(refine⟨⟨?_,?_,?_,?_,?_,?_⟩,?_⟩<;>first|(simp_all;done)|(simp_all;omega)))
  |(refine fu bb (hv:=tn) (hp:=?_)
    rw[Br rfl rfl rfl rfl];constructor
    .exact bj
    .exact ck))
def atd(hk:r.kind=3)(hcl:d.aQ.length<=4096)(h1:r.names.length<2^63)(h2:r.others.length<2^63):kK d r vh vs vr vc vu v1 v2:=by
 obtain⟨rn,jm,rk,rf,dI,dJ,rs,jo,ja,jc,jd,je⟩:=r;dsimp only at hk h1 h2;subst hk;dsimp only[kK];rw[show fK 3=⟨true,false,false,true,false,true,true,0⟩from tn];refine jD tJ uQ λB w0=>?_;refine gF aX v1 dI λa1 c1 e1=>?_;subst e1;refine gF aX v2 dJ λa2 c2 e2=>?_;subst e2;refine go ?_;intro b2 b3;iterate 16 (all_goals (first
  |(refine fD (vW (d:=d) (r:=⟨rn,jm,3,rf,dI,dJ,rs,jo,ja,jc,jd,je⟩) (v1:=.slice a1 dI.length c1) (v2:=.slice a2 dJ.length c2) hcl) (next:=λbb hbb=>?_))
  |(refine fD (uP (d:=d) (r:=⟨rn,jm,3,rf,dI,dJ,rs,jo,ja,jc,jd,je⟩) (v1:=.slice a1 dI.length c1) (v2:=.slice a2 dJ.length c2) hcl) (next:=λbb hbb=>?_))
  |(refine go ?_;first
   |with_reducible refine qW (λ_=>?_) (λ_=>?_)
   |with_reducible refine ql (λ_=>?_) (λ_=>?_)
   |with_reducible refine nW (λ_=>?_) (λ_=>?_)
   |refine kW rfl ?_ ?_<;>intro _
   |refine fP rfl (λ_=>?_) (λ_=>?_)
   |refine kX rfl (λ_=>?_) (λ_=>?_)
   |skip)))
 all_goals (try simp only[eZ]at *)
 all_goals (first
  |(refine fu false (hv:=tn) (hp:=⟨(λh=>by cases h),λh=>?_⟩)
    exfalso
    rw[Br rfl rfl rfl rfl]at h;obtain⟨⟨q1,q2,q3,q4,q5,q6⟩,h7⟩:=h;dsimp only at q1 q2 q3 q4 q5 q6 h7;first
     |(simp_all;done)
     |(obtain⟨⟨p1,p2,p3⟩,p4,p5,p6⟩:=h7;dsimp only at p1 p2 p3 p4 p5 p6;first|(simp_all;done)|(simp_all;omega)|omega))
  |(refine fu true (hv:=tn) (hp:=⟨λ_=>?_,λ_=>rfl⟩)
    rw[Br rfl rfl rfl rfl];first
     |(refine⟨⟨?_,?_,?_,?_,?_,?_⟩,⟨?_,?_,?_⟩,?_,?_,?_⟩<;>dsimp only<;>first|(simp_all;done)|(simp_all;omega)|omega)
     |(refine⟨⟨?_,?_,?_,?_,?_,?_⟩,?_⟩<;>first|(simp_all;done)|(simp_all;omega)))
  |(refine fu bb (hv:=tn) (hp:=?_)
    rw[Br rfl rfl rfl rfl];constructor
    .exact bj
    .exact ck))
def ate(hk:r.kind=4)(hcl:d.aQ.length<=4096)(h1:r.names.length<2^63)(h2:r.others.length<2^63):kK d r vh vs vr vc vu v1 v2:=by
 obtain⟨rn,jm,rk,rf,dI,dJ,rs,jo,ja,jc,jd,je⟩:=r;dsimp only at hk h1 h2;subst hk;dsimp only[kK];rw[show fK 4=⟨true,false,false,false,false,true,true,0⟩from tn];refine jD tJ uQ λB w0=>?_;refine gF aX v1 dI λa1 c1 e1=>?_;subst e1;refine gF aX v2 dJ λa2 c2 e2=>?_;subst e2;refine go ?_;intro b2 b3;iterate 16 (all_goals (first
  |(refine fD (vW (d:=d) (r:=⟨rn,jm,4,rf,dI,dJ,rs,jo,ja,jc,jd,je⟩) (v1:=.slice a1 dI.length c1) (v2:=.slice a2 dJ.length c2) hcl) (next:=λbb hbb=>?_))
  |(refine fD (uP (d:=d) (r:=⟨rn,jm,4,rf,dI,dJ,rs,jo,ja,jc,jd,je⟩) (v1:=.slice a1 dI.length c1) (v2:=.slice a2 dJ.length c2) hcl) (next:=λbb hbb=>?_))
  |(refine go ?_;first
   |with_reducible refine qW (λ_=>?_) (λ_=>?_)
   |with_reducible refine ql (λ_=>?_) (λ_=>?_)
   |with_reducible refine nW (λ_=>?_) (λ_=>?_)
   |refine kW rfl ?_ ?_<;>intro _
   |refine fP rfl (λ_=>?_) (λ_=>?_)
   |refine kX rfl (λ_=>?_) (λ_=>?_)
   |skip)))
 all_goals (try simp only[eZ]at *)
 all_goals (first
  |(refine fu false (hv:=tn) (hp:=⟨(λh=>by cases h),λh=>?_⟩)
    exfalso
    rw[ku rfl rfl tr]at h;obtain⟨⟨q1,q2,q3,q4,q5,q6⟩,h7⟩:=h;dsimp only at q1 q2 q3 q4 q5 q6 h7;first
     |(simp_all;done)
     |(obtain⟨⟨p1,p2,p3⟩,p4,p5,p6⟩:=h7;dsimp only at p1 p2 p3 p4 p5 p6;first|(simp_all;done)|(simp_all;omega)|omega))
  |(refine fu true (hv:=tn) (hp:=⟨λ_=>?_,λ_=>rfl⟩)
    rw[ku rfl rfl tr];first
     |(refine⟨⟨?_,?_,?_,?_,?_,?_⟩,⟨?_,?_,?_⟩,?_,?_,?_⟩<;>dsimp only<;>first|(simp_all;done)|(simp_all;omega)|omega)
     |(refine⟨⟨?_,?_,?_,?_,?_,?_⟩,?_⟩<;>first|(simp_all;done)|(simp_all;omega)))
  |(refine fu bb (hv:=tn) (hp:=?_)
    rw[ku rfl rfl tr];constructor
    .exact bj
    .exact ck))
def atf(hk:r.kind=5)(hcl:d.aQ.length<=4096)(h1:r.names.length<2^63)(h2:r.others.length<2^63):kK d r vh vs vr vc vu v1 v2:=by
 obtain⟨rn,jm,rk,rf,dI,dJ,rs,jo,ja,jc,jd,je⟩:=r;dsimp only at hk h1 h2;subst hk;dsimp only[kK];rw[show fK 5=⟨true,true,false,false,false,true,true,3⟩from tn];refine jD tJ uQ λB w0=>?_;refine gF aX v1 dI λa1 c1 e1=>?_;subst e1;refine gF aX v2 dJ λa2 c2 e2=>?_;subst e2;refine go ?_;intro b2 b3;iterate 16 (all_goals (first
  |(refine fD (vW (d:=d) (r:=⟨rn,jm,5,rf,dI,dJ,rs,jo,ja,jc,jd,je⟩) (v1:=.slice a1 dI.length c1) (v2:=.slice a2 dJ.length c2) hcl) (next:=λbb hbb=>?_))
  |(refine fD (uP (d:=d) (r:=⟨rn,jm,5,rf,dI,dJ,rs,jo,ja,jc,jd,je⟩) (v1:=.slice a1 dI.length c1) (v2:=.slice a2 dJ.length c2) hcl) (next:=λbb hbb=>?_))
  |(refine go ?_;first
   |with_reducible refine qW (λ_=>?_) (λ_=>?_)
   |with_reducible refine ql (λ_=>?_) (λ_=>?_)
   |with_reducible refine nW (λ_=>?_) (λ_=>?_)
   |refine kW rfl ?_ ?_<;>intro _
   |refine fP rfl (λ_=>?_) (λ_=>?_)
   |refine kX rfl (λ_=>?_) (λ_=>?_)
   |skip)))
 all_goals (try simp only[eZ]at *)
 all_goals (first
  |(refine fu false (hv:=tn) (hp:=⟨(λh=>by cases h),λh=>?_⟩)
    exfalso
    rw[ku rfl rfl tr]at h;obtain⟨⟨q1,q2,q3,q4,q5,q6⟩,h7⟩:=h;dsimp only at q1 q2 q3 q4 q5 q6 h7;first
     |(simp_all;done)
     |(obtain⟨⟨p1,p2,p3⟩,p4,p5,p6⟩:=h7;dsimp only at p1 p2 p3 p4 p5 p6;first|(simp_all;done)|(simp_all;omega)|omega))
  |(refine fu true (hv:=tn) (hp:=⟨λ_=>?_,λ_=>rfl⟩)
    rw[ku rfl rfl tr];first
     |(refine⟨⟨?_,?_,?_,?_,?_,?_⟩,⟨?_,?_,?_⟩,?_,?_,?_⟩<;>dsimp only<;>first|(simp_all;done)|(simp_all;omega)|omega)
     |(refine⟨⟨?_,?_,?_,?_,?_,?_⟩,?_⟩<;>first|(simp_all;done)|(simp_all;omega)))
  |(refine fu bb (hv:=tn) (hp:=?_)
    rw[ku rfl rfl tr];constructor
    .exact bj
    .exact ck))
def atg(hk:r.kind=6)(hcl:d.aQ.length<=4096)(h1:r.names.length<2^63)(h2:r.others.length<2^63):kK d r vh vs vr vc vu v1 v2:=by
 obtain⟨rn,jm,rk,rf,dI,dJ,rs,jo,ja,jc,jd,je⟩:=r;dsimp only at hk h1 h2;subst hk;dsimp only[kK];rw[show fK 6=⟨false,false,false,false,false,true,true,0⟩from tn];refine jD tJ uQ λB w0=>?_;refine gF aX v1 dI λa1 c1 e1=>?_;subst e1;refine gF aX v2 dJ λa2 c2 e2=>?_;subst e2;refine go ?_;intro b2 b3;iterate 16 (all_goals (first
  |(refine fD (vW (d:=d) (r:=⟨rn,jm,6,rf,dI,dJ,rs,jo,ja,jc,jd,je⟩) (v1:=.slice a1 dI.length c1) (v2:=.slice a2 dJ.length c2) hcl) (next:=λbb hbb=>?_))
  |(refine fD (uP (d:=d) (r:=⟨rn,jm,6,rf,dI,dJ,rs,jo,ja,jc,jd,je⟩) (v1:=.slice a1 dI.length c1) (v2:=.slice a2 dJ.length c2) hcl) (next:=λbb hbb=>?_))
  |(refine go ?_;first
   |with_reducible refine qW (λ_=>?_) (λ_=>?_)
   |with_reducible refine ql (λ_=>?_) (λ_=>?_)
   |with_reducible refine nW (λ_=>?_) (λ_=>?_)
   |refine kW rfl ?_ ?_<;>intro _
   |refine fP rfl (λ_=>?_) (λ_=>?_)
   |refine kX rfl (λ_=>?_) (λ_=>?_)
   |skip)))
 all_goals (try simp only[eZ]at *)
 all_goals (first
  |(refine fu false (hv:=tn) (hp:=⟨(λh=>by cases h),λh=>?_⟩)
    exfalso
    rw[ku rfl rfl tr]at h;obtain⟨⟨q1,q2,q3,q4,q5,q6⟩,h7⟩:=h;dsimp only at q1 q2 q3 q4 q5 q6 h7;first
     |(simp_all;done)
     |(obtain⟨⟨p1,p2,p3⟩,p4,p5,p6⟩:=h7;dsimp only at p1 p2 p3 p4 p5 p6;first|(simp_all;done)|(simp_all;omega)|omega))
  |(refine fu true (hv:=tn) (hp:=⟨λ_=>?_,λ_=>rfl⟩)
    rw[ku rfl rfl tr];first
     |(refine⟨⟨?_,?_,?_,?_,?_,?_⟩,⟨?_,?_,?_⟩,?_,?_,?_⟩<;>dsimp only<;>first|(simp_all;done)|(simp_all;omega)|omega)
     |(refine⟨⟨?_,?_,?_,?_,?_,?_⟩,?_⟩<;>first|(simp_all;done)|(simp_all;omega)))
  |(refine fu bb (hv:=tn) (hp:=?_)
    rw[ku rfl rfl tr];constructor
    .exact bj
    .exact ck))
def ath(hk:r.kind=7)(hcl:d.aQ.length<=4096)(h1:r.names.length<2^63)(h2:r.others.length<2^63):kK d r vh vs vr vc vu v1 v2:=by
 obtain⟨rn,jm,rk,rf,dI,dJ,rs,jo,ja,jc,jd,je⟩:=r;dsimp only at hk h1 h2;subst hk;dsimp only[kK];rw[show fK 7=⟨false,false,false,false,true,true,true,0⟩from tn];refine jD tJ uQ λB w0=>?_;refine gF aX v1 dI λa1 c1 e1=>?_;subst e1;refine gF aX v2 dJ λa2 c2 e2=>?_;subst e2;refine go ?_;intro b2 b3;iterate 16 (all_goals (first
  |(refine fD (vW (d:=d) (r:=⟨rn,jm,7,rf,dI,dJ,rs,jo,ja,jc,jd,je⟩) (v1:=.slice a1 dI.length c1) (v2:=.slice a2 dJ.length c2) hcl) (next:=λbb hbb=>?_))
  |(refine fD (uP (d:=d) (r:=⟨rn,jm,7,rf,dI,dJ,rs,jo,ja,jc,jd,je⟩) (v1:=.slice a1 dI.length c1) (v2:=.slice a2 dJ.length c2) hcl) (next:=λbb hbb=>?_))
  |(refine go ?_;first
   |with_reducible refine qW (λ_=>?_) (λ_=>?_)
   |with_reducible refine ql (λ_=>?_) (λ_=>?_)
   |with_reducible refine nW (λ_=>?_) (λ_=>?_)
   |refine kW rfl ?_ ?_<;>intro _
   |refine fP rfl (λ_=>?_) (λ_=>?_)
   |refine kX rfl (λ_=>?_) (λ_=>?_)
   |skip)))
 all_goals (try simp only[eZ]at *)
 all_goals (first
  |(refine fu false (hv:=tn) (hp:=⟨(λh=>by cases h),λh=>?_⟩)
    exfalso
    rw[ku rfl rfl tr]at h;obtain⟨⟨q1,q2,q3,q4,q5,q6⟩,h7⟩:=h;dsimp only at q1 q2 q3 q4 q5 q6 h7;first
     |(simp_all;done)
     |(obtain⟨⟨p1,p2,p3⟩,p4,p5,p6⟩:=h7;dsimp only at p1 p2 p3 p4 p5 p6;first|(simp_all;done)|(simp_all;omega)|omega))
  |(refine fu true (hv:=tn) (hp:=⟨λ_=>?_,λ_=>rfl⟩)
    rw[ku rfl rfl tr];first
     |(refine⟨⟨?_,?_,?_,?_,?_,?_⟩,⟨?_,?_,?_⟩,?_,?_,?_⟩<;>dsimp only<;>first|(simp_all;done)|(simp_all;omega)|omega)
     |(refine⟨⟨?_,?_,?_,?_,?_,?_⟩,?_⟩<;>first|(simp_all;done)|(simp_all;omega)))
  |(refine fu bb (hv:=tn) (hp:=?_)
    rw[ku rfl rfl tr];constructor
    .exact bj
    .exact ck))
