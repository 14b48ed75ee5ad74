/- Part. -/
import Derived.Test.YtoilpafpgndilaaGreatLibTF
import Derived.Test.YtoilpafpgndilaaGreatLibUF
import Derived.Test.YtoilpafpgndilaaGreatLibGF
set_option linter.all false
set_option maxRecDepth 10000
set_option maxHeartbeats 4000000
namespace Go.Proofs.YtoilpafpgndilaaGreat
open Tryz (prog)
open Go.Ideal Kd
abbrev zI(a b:kI Int):Prop:=(∀x∈a,x∈b)/\∀x∈b,x∈a
def ait{va vb:vI}{xs ys:kI Int}(hx:xs.length<2^63)(hy:ys.length<2^63):dD prog 272 [va,vb] [ai ae va xs,ai ae vb ys] (.bool (decide (zI xs ys))):=by
 refine gB 272 λB w0=>?_;refine gF ae va xs λa1 c1 e1=>?_;subst e1;refine gF ae vb ys λa2 c2 e2=>?_;subst e2;refine gN xs.length 5 (λk=>k<=xs.length/\∀x∈xs.take k,x∈ys) ⟨z7,An⟩ ?_;rintro k ⟨hk,hall⟩;refine gIf ?_ ?_<;>intro h1
 .refine go ?_;intro _ _ x hx;refine gC (JZ (xs:=ys) (z:=x) z7) λ_ _=>?_;refine go ?_;refine fq rfl (λh2=>?_) (λh2=>?_)
  .refine acM ?_;rw[aR (λh:zI xs ys=>h2 (h.1 x (aZ hx)))];rfl
  exact mz
 have hkl:k=xs.length:=z7
 subst hkl;rw[bU]at hall;have aiu:=hall;clear hall hk h1;refine gN ys.length 6 (λk=>k<=ys.length/\∀x∈ys.take k,x∈xs) ⟨z7,An⟩ ?_;rintro k ⟨hk,hall⟩;refine gIf ?_ ?_<;>intro h1
 .refine go ?_;intro _ _ x hx;refine gC (JZ (xs:=xs) (z:=x) z7) λ_ _=>?_;refine go ?_;refine fq rfl (λh2=>?_) (λh2=>?_)
  .refine acM ?_;rw[aR (λh:zI xs ys=>h2 (h.2 x (aZ hx)))];rfl
  exact mz
 have hkl:k=ys.length:=z7
 subst hkl;rw[bU]at hall;refine acM ?_;rw[dK (show zI xs ys from⟨aiu,hall⟩)];rfl
variable{g:bz}
def aiv{ps:kI Int}(h:zk g ps):ps.Nodup:=by
 have:=h.nd;unfold List.Nodup at this⊢;rw[wS]at this;exact this.imp λh e=>h A1
def WN{a b:kI Int}(ha:a.Nodup)(hb:b.Nodup):zI a b↔bW a=bW b:=by
 constructor
 .rintro⟨h1,h2⟩;exact Uj ((List.perm_ext_iff_of_nodup ha hb).2 λx=>⟨h1 x,h2 x⟩)
 .intro h;exact⟨λx hx=>by rw[<- uU,<- h,uU];exact hx,λx hx=>by rw[<- uU,h,uU];exact hx⟩
def aiw{ls:kI (kI Int)}(hn:∀l∈ls,l.Nodup):(ls.map bW).Nodup↔∀(i j:Nat) a b,j<i->ls[i]? =some a->ls[j]? =some b->¬zI a b:=by
 rw[List.nodup_iff_pairwise_ne,wS,wT];constructor
 .intro h i j a b hij ha hb hk;obtain⟨hi,rfl⟩:=bq.1 ha;obtain⟨hj,rfl⟩:=bq.1 hb;exact h j i hj hi hij ((WN (hn _ (vF hi)) (hn _ (vF hj))).1 hk).symm
 .intro h j i hj hi hij e;exact h i j ls[i] ls[j] hij (bP hi) (bP hj) ((WN (hn _ (vF hi)) (hn _ (vF hj))).2 e.symm)
variable{d:bF}{vh vs vr vc vu:vI}
def aix{gh gc:vI}(hS:ng d)(hG:qP g):
 fC prog 197 [.agg ⟨ahE d vh vs vr vc vu⟩,.agg ⟨iO g gh gc⟩] (ai eY vr d.regions::jq g gh gc) (λe:Int=>iV e) (λe=>e=0↔∀r∈d.regions,zy g r):=by
 have hrl:=hS.regs;have hre:=hS.rZ;refine gB 197 λB w0=>?_;refine gF eY vr d.regions λa1 c1 e1=>?_;subst e1;refine go ?_;intro b2 b3;refine gP b2 ?_;refine gP b3 ?_;refine gN d.regions.length 5 (λk=>k<=d.regions.length/\∀r∈d.regions.take k,zy g r) ⟨z7,An⟩ ?_;rintro k ⟨hk,hall⟩;refine gIf ?_ ?_<;>intro h1
 .refine gX eY (xs:=d.regions) λ_ _ r (vl:vI) hr=>?_;have hrm:=aZ hr;have hrx:=hre r hrm;generalize hls:r.lists=ls at hrx;refine gF (ak ae) vl ls λal cl el=>?_;subst el;refine gC (Wx (g:=g) (rs:=ls) hG hrx.1 hrx.2) λy hy=>?_;obtain⟨v7,e⟩:=y;dsimp only at hy⊢;refine gIf ?_ ?_<;>intro h2
  .refine go ?_;exact gQ e ⟨λh=>absurd h h2,λh=>by exfalso;have:=h r hrm;exact h2 (hy.2 (by rw[<- hls];exact this.1))⟩
  have he:e=0:=ic.1 h2;obtain⟨hg,hro⟩:=hy.1 he;subst he;clear hy h2;have hnd:∀l∈ls,l.Nodup:=λl hl=>aiv (hro.all l hl);have WO:=aiw hnd;refine gN ls.length 9 (λi=>i<=ls.length/\∀(i' j:Nat) a b,i'<i->j<i'->ls[i']? =some a->ls[j]? =some b->¬zI a b) ⟨z7,λi' j a b h=>by omega⟩ ?_;rintro i ⟨hi,hin⟩;refine gIf ?_ ?_<;>intro h3
  .obtain⟨a,ha⟩:∃a,ls[i]? =some a:=⟨ls[i]'(z7),bP _⟩
   have hal:=hrx.2 a (aZ ha);refine gN i 10 (λj=>j<=i/\∀(j':Nat) b,j'<j->ls[j']? =some b->¬zI a b) ⟨z7,λj' b h=>by omega⟩ ?_;rintro j ⟨hj,hjn⟩;refine gIf ?_ ?_<;>intro h4
   .refine gX (ak ae) (xs:=ls) λ_ _ a' (_:vI) ha'=>?_;cases ha.symm.trans ha';refine gX (ak ae) (xs:=ls) λ_ _ b (_:vI) hb=>?_;have hbl:=hrx.2 b (aZ hb);refine gC (ait (xs:=a) (ys:=b) hal hbl) λ_ _=>?_;refine gIf ?_ ?_<;>intro h5
    .refine go ?_;exact gQ 161 ⟨(λh=>by cases h),λh=>by
      exfalso
      have h6:=(h r hrm).2;rw[hls]at h6;exact WO.1 h6 i j a b z7 ha hb h5⟩
    refine go ?_;refine aN (j+1) z7 ⟨z7,λj' b' hj' hb'=>?_⟩;by_cases e:j'=j
    .subst e;rw[hb]at hb';cases hb';exact h5
    .exact hjn j' b' z7 hb'
   have hji:j=i:=z7
   subst hji;refine go ?_;refine aN (j+1) z7 ⟨z7,λi' j' a' b' hi' hj' ha' hb'=>?_⟩;by_cases e:i'=j
   .subst e;rw[ha]at ha';cases ha';exact hjn j' b' hj' hb'
   .exact hin i' j' a' b' z7 hj' ha' hb'
  have hil:i=ls.length:=z7
  subst hil;have hR:zy g r:=⟨⟨hg,by rw[hls];exact hro⟩,by rw[hls];exact WO.2 λi j a b hij ha hb=>hin i j a b (bq.1 ha).1 hij ha hb⟩
  refine go ?_;refine aN (k+1) z7 ⟨z7,?_⟩;rw[bZ hr];intro z hz;rcases dX.1 hz with hz|hz
  .exact hall z hz
  .rw[bM.1 hz];exact hR
 have hkl:k=d.regions.length:=z7
 subst hkl;rw[bU]at hall;refine go ?_;exact gQ 0 ⟨λ_=>hall,λ_=>rfl⟩
def aiy{c:gW}:dD prog 274 [.agg ⟨JJ c⟩] [] (.bool (decide (qR c))):=by
 refine gB 274 λB w0=>?_;refine go ?_;intro b1;iterate 13 (all_goals (first
  |(refine ah () (hv:=?_) (hp:=trivial);first
   |exact congrArg Value.bool (nO.2 B5)
   |exact congrArg Value.bool (aR B5).symm
   |exact congrArg Value.bool (dK B5).symm)
  |(refine go ?_;first
   |with_reducible refine oF (λ_=>?_) (λ_=>?_)
   |with_reducible refine nK (λ_=>?_) (λ_=>?_)
   |refine aA rfl ?_ ?_<;>intro _
   |skip)))
variable{r:bN}{v1 v2:vI}
def aiz:dD prog 275 [.agg ⟨lV r v1 v2⟩] [] (.bool (decide (1<=r.kind/\r.kind<=11))):=by
 refine gB 275 λB w0=>?_;refine go ?_;intro b1;refine gH ?_ ?_<;>intro h1
 .refine acM ?_;rw[aR (λh=>h1 z7)];rfl
 refine acM ?_;exact congrArg Value.bool (nO.2 z7)
def aiA(k:Int):(fM k).read=decide (1<=k/\k<=11):=by
 by_cases h:0<=k/\k<14
 .have hc:k=0\/k=1\/k=2\/k=3\/k=4\/k=5\/k=6\/k=7\/k=8\/k=9\/k=10\/k=11\/k=12\/k=13:=by omega
  rcases hc with rfl|rfl|rfl|rfl|rfl|rfl|rfl|rfl|rfl|rfl|rfl|rfl|rfl|rfl<;>rfl
 .rw[Dj z7,aR z7]
def aiB(hl:d.rules.length<=4096):fC prog 199 [.agg ⟨ahE d vh vs vr vc vu⟩] [ai aY vu d.rules] (λa:x8 Addr=>.slice a (jk d.rules).length (jk d.rules).length) (λ_=>True):=by
 refine gB 199 λB w0=>?_;refine gF aY vu d.rules λa1 c1 e1=>?_;subst e1;refine go ?_;intro b1;refine gP b1 ?_;refine go ?_;refine af5 ae ?_;refine aU (λy:Nat×vI=>d.rules.length - y.1) (λy=>[(4,iV (y.1:Int)),(3,y.2)]) (λy=>[ap ae y.2 (jk (d.rules.take y.1))]) (λ_=>[]) (λy=>y.1<=d.rules.length/\(jk (d.rules.take y.1)).length<=y.1) (0,.slice none 0 0) ⟨bR _,bT _⟩ (hk:=As) (body:=?_);rintro⟨k,v3⟩ ⟨hk,hkl⟩;dsimp only at hk hkl⊢;refine gIf ?_ ?_<;>intro h1
 .refine gX aY (xs:=d.rules) λ_ _ x (vx:vI×vI) hx=>?_;have BB:=VW hx;rw[aiA]at BB;refine gC (aiz (r:=x) (v1:=vx.1) (v2:=vx.2)) λ_ _=>?_;refine go ?_;refine fq rfl (λh2=>?_) (λh2=>?_)
  .rw[if_neg (by rw[aR h2];simp)]at BB;refine go ?_;intro b21;refine go ?_;refine fB ae (xs:=jk (d.rules.take k)) (k:Int) () z7 (next:=λad=>?_);rw[<- BB];refine go ?_;refine aN (k+1,.slice ad ((jk (d.rules.take k)).length+1) ((jk (d.rules.take k)).length+1)) B4 ⟨by show k+1<=_;omega,?_⟩;show(jk (d.rules.take (k+1))).length<=k+1;rw[BB,iH,zS];omega
  .rw[if_pos (dK h2),gU]at BB;rw[<- BB];refine go ?_;refine aN (k+1,v3) B4 ⟨by show k+1<=_;omega,?_⟩;show(jk (d.rules.take (k+1))).length<=k+1;rw[BB];omega
 have hke:k=d.rules.length:=z7
 subst hke;rw[bU];refine pO (E:=ae) (v:=v3) (xs:=jk d.rules) λa3 e3=>?_;subst e3;refine go ?_;exact gQ a3 trivial
def J8(cs:kI gW)(r:bN)(kind:Int)(on:Bool):Prop:=0<=r.adJ/\r.adJ<cs.length/\∃c,cs[r.adJ.toNat]? =some c/\c.type=kind/\(on=false\/c.family=r.family)
def qX{kind:Int}{on:Bool}(hcl:d.aJ.length<=4096):
 fC prog 341 [.agg ⟨ahE d vh vs vr vc vu⟩,.agg ⟨lV r v1 v2⟩,iV kind,.bool on] [ai bI vc d.aJ] (λb:Bool=>.bool b) (λb=>b=true↔J8 d.aJ r kind on):=by
 refine gB 341 λB w0=>?_;refine gF bI vc d.aJ λa1 c1 e1=>?_;subst e1;refine go ?_;intro b4 b5;refine gH ?_ ?_<;>intro h1
 rotate_left
 .exact lj
 refine gIf ?_ ?_<;>intro h2
 .refine go ?_;exact gQ false ⟨(λh=>by cases h),λh=>by exfalso;have:=h.2.1;omega⟩
 obtain⟨k,hk⟩:=jA (show 0<=r.adJ by omega);refine go ?_;rw[hk];refine bi bI (xs:=d.aJ) (next:=λ_ _ c (_:Unit) hc=>?_);have hc':d.aJ[r.adJ.toNat]? =some c:=by rw[hk];exact hc
 have WQ:∀c',d.aJ[r.adJ.toNat]? =some c'->c'=c:=λc' h=>by rw[hc']at h;exact(Option.some.inj h).symm
 refine go ?_;intro b9;refine gH ?_ ?_<;>intro h3
 .refine go ?_;exact gQ false ⟨(λh=>by cases h),λh=>by
   exfalso
   obtain⟨_,_,c',p1,p2,_⟩:=h;rw[WQ c' p1]at p2;exact h3 p2⟩
 cases on with
 |false=>
  refine go ?_;exact gQ true ⟨λ_=>⟨z7,z7,c,hc',h3,.inl rfl⟩,λ_=>rfl⟩
 |true=>
  refine go ?_;refine gQ (decide (c.family=r.family)) ⟨λh=>⟨z7,z7,c,hc',h3,.inr (iI h)⟩,λh=>?_⟩;obtain⟨_,_,c',p1,p2,p3⟩:=h;rw[WQ c' p1]at p3;exact dK (p3.resolve_left An)
def WS(cs:kI gW)(r:bN):Prop:=(1<=r.op/\r.op<=3)/\((r.dS=qU/\(0<=r.n/\r.n<=65536)/\r.adJ= -1)\/(r.dS≠qU/\r.n=0/\J8 cs r 2 true))
def sH(hcl:d.aJ.length<=4096):
 fC prog 340 [.agg ⟨ahE d vh vs vr vc vu⟩,.agg ⟨lV r v1 v2⟩] [ai bI vc d.aJ] (λb:Bool=>.bool b) (λb=>b=true↔WS d.aJ r):=by
 refine gB 340 λB w0=>?_;refine go ?_;intro b2 b3;refine gH ?_ ?_<;>intro h1
 rotate_left
 .exact lj
 refine gIf ?_ ?_<;>intro h2
 .exact lj
 refine go ?_;refine kw rfl (λh3=>?_) (λh3=>?_)
 .rw[eB]at h3;have h3:r.dS=qU:=iI h3;refine gH ?_ ?_<;>intro h4
  .exact oa
  refine gH ?_ ?_<;>intro h5
  .exact oa
  refine go ?_;exact gQ (decide (r.adJ= -1)) ⟨λh=>⟨⟨z7,z7⟩,.inl ⟨h3,⟨z7,z7⟩,iI h⟩⟩,λh=>by
   rcases h.2 with⟨_,_,q⟩|⟨q,_⟩
   .exact dK q
   .exact absurd h3 q⟩
 .rw[eB]at h3;have h3:¬r.dS=qU:=nC h3;refine gH ?_ ?_<;>intro h4
  .refine go ?_;exact gQ false ⟨(λh=>by cases h),λh=>by
    exfalso
    rcases h.2 with⟨q,_⟩|⟨_,q,_⟩
    .exact h3 q
    .exact h4 q⟩
  refine gC (qX (d:=d) (r:=r) (kind:=2) (on:=true) (v1:=v1) (v2:=v2) hcl) λb hb=>?_;refine go ?_;exact gQ b ⟨λh=>⟨⟨z7,z7⟩,.inr ⟨h3,h4,hb.1 h⟩⟩,λh=>by
   rcases h.2 with⟨q,_⟩|⟨_,_,q⟩
   .exact absurd q h3
   .exact hb.2 q⟩
noncomputable def qm:=uE prog 273
def qY:mO prog 273=some qm:=Ax
abbrev jG(d:bF)(r:bN)(vh vs vr vc vu v1 v2:vI):Prop:=fC prog 273 [.agg ⟨ahE d vh vs vr vc vu⟩,.agg ⟨lV r v1 v2⟩] [ai bI vc d.aJ,ai bC v1 r.names,ai bC v2 r.others] (λb:Bool=>.bool b) (λb=>b=true↔wJ (fM r.kind) d.aJ r)
structure WT(x:Bn)(r:bN):Prop where
 on:(x.on=true↔r.on≠qU)
 kE:x.on=true\/r.family=0
 set:(x.set=true↔r.set≠0)
 names:x.set=true\/r.names=[]
 other:(x.other=true↔r.other≠0)
 others:x.other=true\/r.others=[]
structure aiC(x:Bn)(r:bN):Prop where
 op:r.op=0
 n:x.free=true\/r.n=0
 dS:x.adJ≠0\/(r.dS=qU/\r.adJ= -1)
variable{x:Bn}{cs:kI gW}
def yz(hk:x.known=true)(ho:x.op=true)(hf:x.free=false)(hc:x.adJ=0):wJ x cs r↔WT x r/\WS cs r:=by
 constructor
 .rintro⟨q1,q2,q3,q4,q5,q6,q7,q8,q9,Bo,Bp,kH⟩;refine⟨⟨q2,q5,q3,q6,q4,q7⟩,q8.1 ho,?_⟩;by_cases hb:r.dS=qU
  .left;rcases kH 0 (by rw[if_neg (λh=>h.2 hb),hc])with⟨_,_,w⟩|⟨w,_⟩
   .exact⟨hb,Bo,w⟩
   .exact absurd rfl w
  .right;rcases kH 2 (by rw[if_pos ⟨ho,hb⟩])with⟨w,_⟩|⟨_,w1,w2,c,w3,w4,w5⟩
   .cases w
   .refine⟨hb,?_,w1,w2,c,w3,w4,.inr (w5.resolve_left z7)⟩;rcases Bp with h|⟨_,h⟩|h
    .rw[hf]at h;cases h
    .exact absurd h hb
    .exact h
 .rintro⟨⟨q2,q5,q3,q6,q4,q7⟩,p1,p2⟩;refine⟨hk,q2,q3,q4,q5,q6,q7,⟨λ_=>p1,λ_=>ho⟩,.inl ho,?_,?_,λneed hn=>?_⟩
  .rcases p2 with⟨_,h,_⟩|⟨_,h,_⟩
   .exact h
   .omega
  .rcases p2 with⟨h,_,_⟩|⟨_,h,_⟩
   .exact .inr (.inl ⟨ho,h⟩)
   .exact .inr (.inr h)
  .rcases p2 with⟨h,_,h2⟩|⟨h,_,w1,w2,c,w3,w4,w5⟩
   .rw[if_neg (λq=>q.2 h),hc]at hn;exact .inl ⟨hn,h,h2⟩
   .rw[if_pos ⟨ho,h⟩]at hn;exact .inr ⟨z7,w1,w2,c,w3,by rw[hn];exact w4,.inr (w5.resolve_left An)⟩
def jw(hk:x.known=true)(ho:x.op=false)(hc:x.adJ=0\/x.adJ=1\/x.adJ=3):wJ x cs r↔WT x r/\aiC x r/\(0<=r.n/\r.n<=65536)/\(x.adJ=3->J8 cs r 3 true)/\(x.adJ=1->J8 cs r 1 false):=by
 have hne:∀a b:Int,(if x.op=true/\r.dS≠qU then a else b)=b:=λa b=>if_neg (λh=>by rw[ho]at h;cases h.1);constructor
 .rintro⟨q1,q2,q3,q4,q5,q6,q7,q8,q9,Bo,Bp,kH⟩;have hop:r.op=0:=by rcases q9 with h|h;rw[ho]at h;cases h;exact h
  have kH:=kH x.adJ (hne _ _).symm;refine⟨⟨q2,q5,q3,q6,q4,q7⟩,⟨hop,?_,?_⟩,Bo,λh=>?_,λh=>?_⟩
  .rcases Bp with h|⟨h,_⟩|h
   .exact .inl h
   .rw[ho]at h;cases h
   .exact .inr h
  .rcases kH with⟨_,w⟩|⟨w,_⟩
   .exact .inr w
   .exact .inl w
  .rcases kH with⟨w,_⟩|⟨_,w1,w2,c,w3,w4,w5⟩
   .omega
   .exact⟨w1,w2,c,w3,z7,.inr (w5.resolve_left z7)⟩
  .rcases kH with⟨w,_⟩|⟨_,w1,w2,c,w3,w4,w5⟩
   .omega
   .exact⟨w1,w2,c,w3,z7,.inl rfl⟩
 .rintro⟨⟨q2,q5,q3,q6,q4,q7⟩,⟨p1,p2,p3⟩,p4,p5,p6⟩;refine⟨hk,q2,q3,q4,q5,q6,q7,⟨(λh=>by rw[ho]at h;cases h),(λh=>by omega)⟩,.inr p1,p4,?_,λneed hn=>?_⟩
  .rcases p2 with h|h
   .exact .inl h
   .exact .inr (.inr h)
  .rw[hne]at hn;subst hn;rcases hc with h|h|h
   .exact .inl ⟨h,p3.resolve_left z7⟩
   .obtain⟨w1,w2,c,w3,w4,w5⟩:=p6 h;exact .inr ⟨z7,w1,w2,c,w3,z7,.inl h⟩
   .obtain⟨w1,w2,c,w3,w4,w5⟩:=p5 h;exact .inr ⟨z7,w1,w2,c,w3,z7,.inr (w5.resolve_left An)⟩
def aiD(hk:r.kind=1)(hcl:d.aJ.length<=4096)(h1:r.names.length<2^63)(h2:r.others.length<2^63):jG d r vh vs vr vc vu v1 v2:=by
 obtain⟨rn,iy,rk,rf,dA,dB,rs,iC,iD,iE,iF,iG⟩:=r;dsimp only at hk h1 h2;subst hk;dsimp only[jG];rw[show fM 1=⟨true,false,false,false,false,true,true,0⟩from AD];refine aM qm qY λB w0=>?_;refine gF bC v1 dA λa1 c1 e1=>?_;subst e1;refine gF bC v2 dB λa2 c2 e2=>?_;subst e2;refine go ?_;intro b2 b3;iterate 16 (all_goals (first
  |(refine ay (sH (d:=d) (r:=⟨rn,iy,1,rf,dA,dB,rs,iC,iD,iE,iF,iG⟩) (v1:=.slice a1 dA.length c1) (v2:=.slice a2 dB.length c2) hcl) (next:=λbb hbb=>?_))
  |(refine ay (qX (d:=d) (r:=⟨rn,iy,1,rf,dA,dB,rs,iC,iD,iE,iF,iG⟩) (v1:=.slice a1 dA.length c1) (v2:=.slice a2 dB.length c2) hcl) (next:=λbb hbb=>?_))
  |(refine go ?_;first
   |with_reducible refine oF (λ_=>?_) (λ_=>?_)
   |with_reducible refine nK (λ_=>?_) (λ_=>?_)
   |with_reducible refine lU (λ_=>?_) (λ_=>?_)
   |refine aA rfl ?_ ?_<;>intro _
   |refine fq rfl (λ_=>?_) (λ_=>?_)
   |refine kw rfl (λ_=>?_) (λ_=>?_)
   |skip)))
 all_goals (try simp only[eB]at *)
 all_goals (first
  |(refine ah false (hv:=AD) (hp:=⟨(λh=>by cases h),λh=>?_⟩)
    exfalso
    rw[jw rfl rfl AE]at h;obtain⟨⟨q1,q2,q3,q4,q5,q6⟩,h7⟩:=h;dsimp only at q1 q2 q3 q4 q5 q6 h7;first
     |(simp_all;done)
     |(obtain⟨⟨p1,p2,p3⟩,p4,p5,p6⟩:=h7;dsimp only at p1 p2 p3 p4 p5 p6;first|(simp_all;done)|(simp_all;omega)|omega))
  |(refine ah true (hv:=AD) (hp:=⟨λ_=>?_,λ_=>rfl⟩)
    rw[jw rfl rfl AE];first
     |(refine⟨⟨?_,?_,?_,?_,?_,?_⟩,⟨?_,?_,?_⟩,?_,?_,?_⟩<;>dsimp only<;>first|(simp_all;done)|(simp_all;omega)|omega)
     |(refine⟨⟨?_,?_,?_,?_,?_,?_⟩,?_⟩<;>first|(simp_all;done)|(simp_all;omega)))
  |(refine ah bb (hv:=AD) (hp:=?_)
    rw[jw rfl rfl AE];constructor
    .exact ck
    .exact cm))
def aiE(hk:r.kind=2)(hcl:d.aJ.length<=4096)(h1:r.names.length<2^63)(h2:r.others.length<2^63):jG d r vh vs vr vc vu v1 v2:=by
 obtain⟨rn,iy,rk,rf,dA,dB,rs,iC,iD,iE,iF,iG⟩:=r;dsimp only at hk h1 h2;subst hk;dsimp only[jG];rw[show fM 2=⟨true,true,false,true,false,true,true,0⟩from AD];refine aM qm qY λB w0=>?_;refine gF bC v1 dA λa1 c1 e1=>?_;subst e1;refine gF bC v2 dB λa2 c2 e2=>?_;subst e2;refine go ?_;intro b2 b3;iterate 16 (all_goals (first
  |(refine ay (sH (d:=d) (r:=⟨rn,iy,2,rf,dA,dB,rs,iC,iD,iE,iF,iG⟩) (v1:=.slice a1 dA.length c1) (v2:=.slice a2 dB.length c2) hcl) (next:=λbb hbb=>?_))
  |(refine ay (qX (d:=d) (r:=⟨rn,iy,2,rf,dA,dB,rs,iC,iD,iE,iF,iG⟩) (v1:=.slice a1 dA.length c1) (v2:=.slice a2 dB.length c2) hcl) (next:=λbb hbb=>?_))
  |(refine go ?_;first
   |with_reducible refine oF (λ_=>?_) (λ_=>?_)
   |with_reducible refine nK (λ_=>?_) (λ_=>?_)
   |with_reducible refine lU (λ_=>?_) (λ_=>?_)
   |refine aA rfl ?_ ?_<;>intro _
   |refine fq rfl (λ_=>?_) (λ_=>?_)
   |refine kw rfl (λ_=>?_) (λ_=>?_)
   |skip)))
 all_goals (try simp only[eB]at *)
 all_goals (first
  |(refine ah false (hv:=AD) (hp:=⟨(λh=>by cases h),λh=>?_⟩)
    exfalso
    rw[yz rfl rfl rfl rfl]at h;obtain⟨⟨q1,q2,q3,q4,q5,q6⟩,h7⟩:=h;dsimp only at q1 q2 q3 q4 q5 q6 h7;first
     |(simp_all;done)
     |(obtain⟨⟨p1,p2,p3⟩,p4,p5,p6⟩:=h7;dsimp only at p1 p2 p3 p4 p5 p6;first|(simp_all;done)|(simp_all;omega)|omega))
  |(refine ah true (hv:=AD) (hp:=⟨λ_=>?_,λ_=>rfl⟩)
    rw[yz rfl rfl rfl rfl];first
     |(refine⟨⟨?_,?_,?_,?_,?_,?_⟩,⟨?_,?_,?_⟩,?_,?_,?_⟩<;>dsimp only<;>first|(simp_all;done)|(simp_all;omega)|omega)
     |(refine⟨⟨?_,?_,?_,?_,?_,?_⟩,?_⟩<;>first|(simp_all;done)|(simp_all;omega)))
  |(refine ah bb (hv:=AD) (hp:=?_)
    rw[yz rfl rfl rfl rfl];constructor
    .exact ck
    .exact cm))
def aiF(hk:r.kind=3)(hcl:d.aJ.length<=4096)(h1:r.names.length<2^63)(h2:r.others.length<2^63):jG d r vh vs vr vc vu v1 v2:=by
 obtain⟨rn,iy,rk,rf,dA,dB,rs,iC,iD,iE,iF,iG⟩:=r;dsimp only at hk h1 h2;subst hk;dsimp only[jG];rw[show fM 3=⟨true,false,false,true,false,true,true,0⟩from AD];refine aM qm qY λB w0=>?_;refine gF bC v1 dA λa1 c1 e1=>?_;subst e1;refine gF bC v2 dB λa2 c2 e2=>?_;subst e2;refine go ?_;intro b2 b3;iterate 16 (all_goals (first
  |(refine ay (sH (d:=d) (r:=⟨rn,iy,3,rf,dA,dB,rs,iC,iD,iE,iF,iG⟩) (v1:=.slice a1 dA.length c1) (v2:=.slice a2 dB.length c2) hcl) (next:=λbb hbb=>?_))
  |(refine ay (qX (d:=d) (r:=⟨rn,iy,3,rf,dA,dB,rs,iC,iD,iE,iF,iG⟩) (v1:=.slice a1 dA.length c1) (v2:=.slice a2 dB.length c2) hcl) (next:=λbb hbb=>?_))
  |(refine go ?_;first
   |with_reducible refine oF (λ_=>?_) (λ_=>?_)
   |with_reducible refine nK (λ_=>?_) (λ_=>?_)
   |with_reducible refine lU (λ_=>?_) (λ_=>?_)
   |refine aA rfl ?_ ?_<;>intro _
   |refine fq rfl (λ_=>?_) (λ_=>?_)
   |refine kw rfl (λ_=>?_) (λ_=>?_)
   |skip)))
 all_goals (try simp only[eB]at *)
 all_goals (first
  |(refine ah false (hv:=AD) (hp:=⟨(λh=>by cases h),λh=>?_⟩)
    exfalso
    rw[yz rfl rfl rfl rfl]at h;obtain⟨⟨q1,q2,q3,q4,q5,q6⟩,h7⟩:=h;dsimp only at q1 q2 q3 q4 q5 q6 h7;first
     |(simp_all;done)
     |(obtain⟨⟨p1,p2,p3⟩,p4,p5,p6⟩:=h7;dsimp only at p1 p2 p3 p4 p5 p6;first|(simp_all;done)|(simp_all;omega)|omega))
  |(refine ah true (hv:=AD) (hp:=⟨λ_=>?_,λ_=>rfl⟩)
    rw[yz rfl rfl rfl rfl];first
     |(refine⟨⟨?_,?_,?_,?_,?_,?_⟩,⟨?_,?_,?_⟩,?_,?_,?_⟩<;>dsimp only<;>first|(simp_all;done)|(simp_all;omega)|omega)
     |(refine⟨⟨?_,?_,?_,?_,?_,?_⟩,?_⟩<;>first|(simp_all;done)|(simp_all;omega)))
  |(refine ah bb (hv:=AD) (hp:=?_)
    rw[yz rfl rfl rfl rfl];constructor
    .exact ck
    .exact cm))
def aiG(hk:r.kind=4)(hcl:d.aJ.length<=4096)(h1:r.names.length<2^63)(h2:r.others.length<2^63):jG d r vh vs vr vc vu v1 v2:=by
 obtain⟨rn,iy,rk,rf,dA,dB,rs,iC,iD,iE,iF,iG⟩:=r;dsimp only at hk h1 h2;subst hk;dsimp only[jG];rw[show fM 4=⟨true,false,false,false,false,true,true,0⟩from AD];refine aM qm qY λB w0=>?_;refine gF bC v1 dA λa1 c1 e1=>?_;subst e1;refine gF bC v2 dB λa2 c2 e2=>?_;subst e2;refine go ?_;intro b2 b3;iterate 16 (all_goals (first
  |(refine ay (sH (d:=d) (r:=⟨rn,iy,4,rf,dA,dB,rs,iC,iD,iE,iF,iG⟩) (v1:=.slice a1 dA.length c1) (v2:=.slice a2 dB.length c2) hcl) (next:=λbb hbb=>?_))
  |(refine ay (qX (d:=d) (r:=⟨rn,iy,4,rf,dA,dB,rs,iC,iD,iE,iF,iG⟩) (v1:=.slice a1 dA.length c1) (v2:=.slice a2 dB.length c2) hcl) (next:=λbb hbb=>?_))
  |(refine go ?_;first
   |with_reducible refine oF (λ_=>?_) (λ_=>?_)
   |with_reducible refine nK (λ_=>?_) (λ_=>?_)
   |with_reducible refine lU (λ_=>?_) (λ_=>?_)
   |refine aA rfl ?_ ?_<;>intro _
   |refine fq rfl (λ_=>?_) (λ_=>?_)
   |refine kw rfl (λ_=>?_) (λ_=>?_)
   |skip)))
 all_goals (try simp only[eB]at *)
 all_goals (first
  |(refine ah false (hv:=AD) (hp:=⟨(λh=>by cases h),λh=>?_⟩)
    exfalso
    rw[jw rfl rfl AE]at h;obtain⟨⟨q1,q2,q3,q4,q5,q6⟩,h7⟩:=h;dsimp only at q1 q2 q3 q4 q5 q6 h7;first
     |(simp_all;done)
     |(obtain⟨⟨p1,p2,p3⟩,p4,p5,p6⟩:=h7;dsimp only at p1 p2 p3 p4 p5 p6;first|(simp_all;done)|(simp_all;omega)|omega))
  |(refine ah true (hv:=AD) (hp:=⟨λ_=>?_,λ_=>rfl⟩)
    rw[jw rfl rfl AE];first
     |(refine⟨⟨?_,?_,?_,?_,?_,?_⟩,⟨?_,?_,?_⟩,?_,?_,?_⟩<;>dsimp only<;>first|(simp_all;done)|(simp_all;omega)|omega)
     |(refine⟨⟨?_,?_,?_,?_,?_,?_⟩,?_⟩<;>first|(simp_all;done)|(simp_all;omega)))
  |(refine ah bb (hv:=AD) (hp:=?_)
    rw[jw rfl rfl AE];constructor
    .exact ck
    .exact cm))
def aiH(hk:r.kind=5)(hcl:d.aJ.length<=4096)(h1:r.names.length<2^63)(h2:r.others.length<2^63):jG d r vh vs vr vc vu v1 v2:=by
 obtain⟨rn,iy,rk,rf,dA,dB,rs,iC,iD,iE,iF,iG⟩:=r;dsimp only at hk h1 h2;subst hk;dsimp only[jG];rw[show fM 5=⟨true,true,false,false,false,true,true,3⟩from AD];refine aM qm qY λB w0=>?_;refine gF bC v1 dA λa1 c1 e1=>?_;subst e1;refine gF bC v2 dB λa2 c2 e2=>?_;subst e2;refine go ?_;intro b2 b3;iterate 16 (all_goals (first
  |(refine ay (sH (d:=d) (r:=⟨rn,iy,5,rf,dA,dB,rs,iC,iD,iE,iF,iG⟩) (v1:=.slice a1 dA.length c1) (v2:=.slice a2 dB.length c2) hcl) (next:=λbb hbb=>?_))
  |(refine ay (qX (d:=d) (r:=⟨rn,iy,5,rf,dA,dB,rs,iC,iD,iE,iF,iG⟩) (v1:=.slice a1 dA.length c1) (v2:=.slice a2 dB.length c2) hcl) (next:=λbb hbb=>?_))
  |(refine go ?_;first
   |with_reducible refine oF (λ_=>?_) (λ_=>?_)
   |with_reducible refine nK (λ_=>?_) (λ_=>?_)
   |with_reducible refine lU (λ_=>?_) (λ_=>?_)
   |refine aA rfl ?_ ?_<;>intro _
   |refine fq rfl (λ_=>?_) (λ_=>?_)
   |refine kw rfl (λ_=>?_) (λ_=>?_)
   |skip)))
 all_goals (try simp only[eB]at *)
 all_goals (first
  |(refine ah false (hv:=AD) (hp:=⟨(λh=>by cases h),λh=>?_⟩)
    exfalso
    rw[jw rfl rfl AE]at h;obtain⟨⟨q1,q2,q3,q4,q5,q6⟩,h7⟩:=h;dsimp only at q1 q2 q3 q4 q5 q6 h7;first
     |(simp_all;done)
     |(obtain⟨⟨p1,p2,p3⟩,p4,p5,p6⟩:=h7;dsimp only at p1 p2 p3 p4 p5 p6;first|(simp_all;done)|(simp_all;omega)|omega))
  |(refine ah true (hv:=AD) (hp:=⟨λ_=>?_,λ_=>rfl⟩)
    rw[jw rfl rfl AE];first
     |(refine⟨⟨?_,?_,?_,?_,?_,?_⟩,⟨?_,?_,?_⟩,?_,?_,?_⟩<;>dsimp only<;>first|(simp_all;done)|(simp_all;omega)|omega)
     |(refine⟨⟨?_,?_,?_,?_,?_,?_⟩,?_⟩<;>first|(simp_all;done)|(simp_all;omega)))
  |(refine ah bb (hv:=AD) (hp:=?_)
    rw[jw rfl rfl AE];constructor
    .exact ck
    .exact cm))
def aiI(hk:r.kind=6)(hcl:d.aJ.length<=4096)(h1:r.names.length<2^63)(h2:r.others.length<2^63):jG d r vh vs vr vc vu v1 v2:=by
 obtain⟨rn,iy,rk,rf,dA,dB,rs,iC,iD,iE,iF,iG⟩:=r;dsimp only at hk h1 h2;subst hk;dsimp only[jG];rw[show fM 6=⟨false,false,false,false,false,true,true,0⟩from AD];refine aM qm qY λB w0=>?_;refine gF bC v1 dA λa1 c1 e1=>?_;subst e1;refine gF bC v2 dB λa2 c2 e2=>?_;subst e2;refine go ?_;intro b2 b3;iterate 16 (all_goals (first
  |(refine ay (sH (d:=d) (r:=⟨rn,iy,6,rf,dA,dB,rs,iC,iD,iE,iF,iG⟩) (v1:=.slice a1 dA.length c1) (v2:=.slice a2 dB.length c2) hcl) (next:=λbb hbb=>?_))
  |(refine ay (qX (d:=d) (r:=⟨rn,iy,6,rf,dA,dB,rs,iC,iD,iE,iF,iG⟩) (v1:=.slice a1 dA.length c1) (v2:=.slice a2 dB.length c2) hcl) (next:=λbb hbb=>?_))
  |(refine go ?_;first
   |with_reducible refine oF (λ_=>?_) (λ_=>?_)
   |with_reducible refine nK (λ_=>?_) (λ_=>?_)
   |with_reducible refine lU (λ_=>?_) (λ_=>?_)
   |refine aA rfl ?_ ?_<;>intro _
   |refine fq rfl (λ_=>?_) (λ_=>?_)
   |refine kw rfl (λ_=>?_) (λ_=>?_)
   |skip)))
 all_goals (try simp only[eB]at *)
 all_goals (first
  |(refine ah false (hv:=AD) (hp:=⟨(λh=>by cases h),λh=>?_⟩)
    exfalso
    rw[jw rfl rfl AE]at h;obtain⟨⟨q1,q2,q3,q4,q5,q6⟩,h7⟩:=h;dsimp only at q1 q2 q3 q4 q5 q6 h7;first
     |(simp_all;done)
     |(obtain⟨⟨p1,p2,p3⟩,p4,p5,p6⟩:=h7;dsimp only at p1 p2 p3 p4 p5 p6;first|(simp_all;done)|(simp_all;omega)|omega))
  |(refine ah true (hv:=AD) (hp:=⟨λ_=>?_,λ_=>rfl⟩)
    rw[jw rfl rfl AE];first
     |(refine⟨⟨?_,?_,?_,?_,?_,?_⟩,⟨?_,?_,?_⟩,?_,?_,?_⟩<;>dsimp only<;>first|(simp_all;done)|(simp_all;omega)|omega)
     |(refine⟨⟨?_,?_,?_,?_,?_,?_⟩,?_⟩<;>first|(simp_all;done)|(simp_all;omega)))
  |(refine ah bb (hv:=AD) (hp:=?_)
    rw[jw rfl rfl AE];constructor
    .exact ck
    .exact cm))
def aiJ(hk:r.kind=7)(hcl:d.aJ.length<=4096)(h1:r.names.length<2^63)(h2:r.others.length<2^63):jG d r vh vs vr vc vu v1 v2:=by
 obtain⟨rn,iy,rk,rf,dA,dB,rs,iC,iD,iE,iF,iG⟩:=r;dsimp only at hk h1 h2;subst hk;dsimp only[jG];rw[show fM 7=⟨false,false,false,false,true,true,true,0⟩from AD];refine aM qm qY λB w0=>?_;refine gF bC v1 dA λa1 c1 e1=>?_;subst e1;refine gF bC v2 dB λa2 c2 e2=>?_;subst e2;refine go ?_;intro b2 b3;iterate 16 (all_goals (first
  |(refine ay (sH (d:=d) (r:=⟨rn,iy,7,rf,dA,dB,rs,iC,iD,iE,iF,iG⟩) (v1:=.slice a1 dA.length c1) (v2:=.slice a2 dB.length c2) hcl) (next:=λbb hbb=>?_))
  |(refine ay (qX (d:=d) (r:=⟨rn,iy,7,rf,dA,dB,rs,iC,iD,iE,iF,iG⟩) (v1:=.slice a1 dA.length c1) (v2:=.slice a2 dB.length c2) hcl) (next:=λbb hbb=>?_))
  |(refine go ?_;first
   |with_reducible refine oF (λ_=>?_) (λ_=>?_)
   |with_reducible refine nK (λ_=>?_) (λ_=>?_)
   |with_reducible refine lU (λ_=>?_) (λ_=>?_)
   |refine aA rfl ?_ ?_<;>intro _
   |refine fq rfl (λ_=>?_) (λ_=>?_)
   |refine kw rfl (λ_=>?_) (λ_=>?_)
   |skip)))
 all_goals (try simp only[eB]at *)
 all_goals (first
  |(refine ah false (hv:=AD) (hp:=⟨(λh=>by cases h),λh=>?_⟩)
    exfalso
    rw[jw rfl rfl AE]at h;obtain⟨⟨q1,q2,q3,q4,q5,q6⟩,h7⟩:=h;dsimp only at q1 q2 q3 q4 q5 q6 h7;first
     |(simp_all;done)
     |(obtain⟨⟨p1,p2,p3⟩,p4,p5,p6⟩:=h7;dsimp only at p1 p2 p3 p4 p5 p6;first|(simp_all;done)|(simp_all;omega)|omega))
  |(refine ah true (hv:=AD) (hp:=⟨λ_=>?_,λ_=>rfl⟩)
    rw[jw rfl rfl AE];first
     |(refine⟨⟨?_,?_,?_,?_,?_,?_⟩,⟨?_,?_,?_⟩,?_,?_,?_⟩<;>dsimp only<;>first|(simp_all;done)|(simp_all;omega)|omega)
     |(refine⟨⟨?_,?_,?_,?_,?_,?_⟩,?_⟩<;>first|(simp_all;done)|(simp_all;omega)))
  |(refine ah bb (hv:=AD) (hp:=?_)
    rw[jw rfl rfl AE];constructor
    .exact ck
    .exact cm))
