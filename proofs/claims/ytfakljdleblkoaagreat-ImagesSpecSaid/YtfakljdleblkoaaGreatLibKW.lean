/-
  Part LibKW.
-/
import Derived.Test.YtfakljdleblkoaaGreatLibIW
set_option linter.all false
set_option maxRecDepth 10000
set_option maxHeartbeats 4000000
namespace Go.Proofs.YtfakljdleblkoaaGreat
open Go.Ideal Kd Canon
structure Ve(k:bS)(p:List Clue)(grid:List Int)(r:bA)(set other:Nat):Prop where
 s:tC k
 ps:aga p
 iK:TD k
 rin:Vd k r
 right:∀g∈p,EG k g
 gri:Un grid
 cells:∀x∈IK k p r,Uo grid x.1
 vals:Uq (kP k) grid
 bZ:kz k.aD
 Ao:grid.length=k.aD.length
 st:r.set=(set:Int)/\set<9223372036854775808
 ot:r.other=(other:Int)/\other<9223372036854775808
 kind:1<=r.kind/\r.kind<=11
 giv:r.kind=2\/r.kind=3\/r.kind=11->∀x∈IK k p r,0<x.2.length
 few:∀x∈IK k p r,x.1.length<=4096
 one:r.kind=11->∀x∈IK k p r,0<x.1.length
section
variable {k:bS} {p:List Clue} {grid:List Int} {r:bA} {set other:Nat} {bv br:Nat} {vh vs vr vc vu gh gc vn vl vp vg vv v1 v2:Value}
theorem Ve.aD(H:Ve k p grid r set other):∀l∈k.aD,∀b∈l,0<=b/\b<grid.length:=by
 intro l hl b hb;obtain⟨i,hi⟩:=jT hl;obtain⟨j,hj⟩:=jT hb;have:=H.bZ.ok i l hi j b hj;have:=H.Ao;omega
end
end Go.Proofs.YtfakljdleblkoaaGreat
namespace Go.Proofs.YtfakljdleblkoaaGreat
open Go.Ideal Kd Canon
end Go.Proofs.YtfakljdleblkoaaGreat
namespace Go.Proofs.YtfakljdleblkoaaGreat
open Go.Ideal Kd Canon
structure Jp(k:bS):Prop where
 dw:j5 k.decl.w
 dh:j5 k.decl.h
 gw:j5 k.grid.w
 gh:j5 k.grid.h
 holes:k.decl.holes.length<9223372036854775808
 dJ:k.decl.symbols.length<9223372036854775808
 regs:k.decl.regions.length<9223372036854775808
 vU:∀r∈k.decl.regions,r.lists.length<9223372036854775808/\∀l∈r.lists,l.length<9223372036854775808
 jR:k.decl.aJ.length<9223372036854775808
 lQ:k.decl.rules.length<9223372036854775808
 vT:∀r∈k.decl.rules,r.names.length<9223372036854775808/\r.others.length<9223372036854775808
 Vf:k.grid.holes.length<9223372036854775808
 cells:k.grid.cells.length<9223372036854775808
 aD:k.aD.length<9223372036854775808/\∀l∈k.aD,l.length<9223372036854775808
 lists:k.lists.length<9223372036854775808/\∀l∈k.lists,l.length<9223372036854775808/\∀m∈l,m.length<9223372036854775808
structure Vg(k:bS):Prop where
 cells:k.grid.cells.length<=16
 Vf:k.grid.holes.length<=256
 aD:k.aD.length<=20
 lists:k.lists.length<=12
 dJ:k.decl.symbols.length<=6
 regs:k.decl.regions.length<=6
 jR:k.decl.aJ.length<=6
 lQ:k.decl.rules.length<=10
 holes:k.decl.holes.length<=256
 each:∀l∈k.lists,l.length<=40
 reg:∀r∈k.decl.regions,r.lists.length<=20
variable{k:bS}
theorem tC.of(hB:Jp k)(hF:Vg k):tC k:=by
 have f1:=hF.cells;have f2:=hF.Vf;have f5:=hF.dJ;have f6:=hF.regs;have f7:=hF.jR;have f8:=hF.lQ;have f9:=hF.holes;exact⟨⟨⟨vj,vj,vj,vj,hB.vT,hB.holes,hB.vU⟩,hB.dw,hB.dh,vj⟩,⟨hB.gw,hB.gh,vj,vj⟩,hB.aD,hB.lists⟩
variable{vh vs vr vc vu gh gc vn vl:Value}
theorem agb(hB:Jp k):aU Tryz.prog (.func 11) [.agg ⟨lC k vh vs vr vc vu gh gc vn vl⟩] [] [] (ku k vh vs vr vc vu gh gc vn vl []) (λb:Bool=>.bool b) (λ_=>[]) (λ_=>[]) (λb=>b=true->Vg k):=by
 refine aH _ (aN 11) λB w0=>?_;dsimp only[ku];refine go ?_;intro b1;refine go ?_;refine gG (λh1=>?_) (λh1=>?_)
 rotate_left
 ·exact cV
 refine go ?_;refine gG (λh2=>?_) (λh2=>?_)
 rotate_left
 ·exact cV
 refine go ?_;refine gG (λh3=>?_) (λh3=>?_)
 rotate_left
 ·exact cV
 refine go ?_;refine gG (λh4=>?_) (λh4=>?_)
 rotate_left
 ·exact cV
 refine go ?_;refine gG (λh5=>?_) (λh5=>?_)
 rotate_left
 ·exact cV
 refine go ?_;refine gG (λh6=>?_) (λh6=>?_)
 rotate_left
 ·exact cV
 refine go ?_;refine gG (λh7=>?_) (λh7=>?_)
 rotate_left
 ·exact cV
 refine go ?_;refine gG (λh8=>?_) (λh8=>?_)
 rotate_left
 ·exact cV
 refine go ?_;refine az rfl (λh9=>?_) (λh9=>?_)
 ·exact cV
 refine go ?_;refine aW (λj:Nat=>k.lists.length - j) (λj=>[(3,.int .i64 (j:Int))]) (λ_=>[]) (λ_=>[]) (λj=>j<=k.lists.length/\∀l∈k.lists.take j,l.length<=40) 0 ⟨bQ _,vm⟩ (body:=?_);rintro j ⟨hj,hall⟩;refine go ?_;refine az rfl (λa1=>?_) (λa1=>?_)
 ·refine go ?_;refine bq (ak (ak ae)) (xs:=k.lists) (next:=λ_ _ l (y8:Value) hl=>?_);refine go ?_;refine az rfl (λa2=>?_) (λa2=>?_)
  ·exact cV
  ·refine go ?_;refine aM (j+1) (by show k.lists.length - (j+1)<k.lists.length - j;omega) ⟨vj,?_⟩;rw[bU hl];intro x hx;rcases dW.1 hx with hx|hx
   ·exact hall x hx
   ·rw[bK.1 hx];omega
 have gV:j=k.lists.length:=vj
 subst gV;rw[bJ]at hall;refine go ?_;refine aW (λj:Nat=>k.decl.regions.length - j) (λj=>[(4,.int .i64 (j:Int))]) (λ_=>[]) (λ_=>[]) (λj=>j<=k.decl.regions.length/\∀r∈k.decl.regions.take j,r.lists.length<=20) 0 ⟨bQ _,vm⟩ (body:=?_);rintro j ⟨hj,uM⟩;refine go ?_;refine az rfl (λa1=>?_) (λa1=>?_)
 ·have hr:k.decl.regions[j]? =some (k.decl.regions[j]'(vj)):=bW _;generalize k.decl.regions[j]'(vj)=r at hr;refine go ?_;refine bq eZ (xs:=k.decl.regions) (next:=λ_ _ r2 (y8:Value) hr2=>?_);rw[hr]at hr2;obtain rfl:r=r2:=Option.some.inj hr2;refine go ?_;refine az rfl (λa2=>?_) (λa2=>?_)
  ·exact cV
  ·refine go ?_;refine aM (j+1) (by show k.decl.regions.length - (j+1)<k.decl.regions.length - j;omega) ⟨vj,?_⟩;rw[bU hr];intro x hx;rcases dW.1 hx with hx|hx
   ·exact uM x hx
   ·rw[bK.1 hx];omega
 have gV:j=k.decl.regions.length:=vj
 subst gV;rw[bJ]at uM;refine go ?_;exact ah true (hv:=rfl) (hp:=λ_=>⟨vj,vj,vj,vj,vj,vj,vj,vj,vj,hall,uM⟩)
theorem al4{p:List Clue}{grid:List Int}{vp vg:Value}(hB:Jp k):
 aU Tryz.prog (.func 20) [.agg ⟨lC k vh vs vr vc vu gh gc vn vl⟩,.agg ⟨[vp]⟩,vg] [] [] (ai aaH vp p::ai ae vg grid::ku k vh vs vr vc vu gh gc vn vl []) (λb:Bool=>.bool b) (λ_=>[]) (λ_=>[]) (λb=>b=true->Vg k/\p.length<=60/\grid.length<=20):=by
 refine aH _ (aN 20) λB w0=>?_;dsimp only[ku];refine go ?_;intro b3 b4;refine go ?_;refine ax (agb (k:=k) hB) (next:=λb hb=>?_);cases b with
 |false=>
  exact cV
 |true=>
 have hk:=hb rfl;refine go ?_;refine gG (λh1=>?_) (λh1=>?_)
 ·exact cV
 refine go ?_;refine ah (decide ((grid.length:Int)<=20)) (hv:=rfl) (hp:=λh=>?_);have h:=gQ h;exact⟨hk,vj,vj⟩
theorem al5{v:Value}{xs:List Int}{x:Int}(hl:xs.length<9223372036854775808):dL Tryz.prog 214 [v,.int .i64 x] [ai ae v xs] (.bool (decide (x∈xs))):=by
 refine aH _ (aN 214) λB w0=>?_;refine go ?_;refine aW (λj:Nat=>xs.length - j) (λj=>[(5,.int .i64 (j:Int))]) (λ_=>[]) (λ_=>[]) (λj=>j<=xs.length/\x∉xs.take j) 0 ⟨bQ _,vm⟩ (body:=?_);rintro j ⟨hj,hno⟩;refine go ?_;refine az rfl (λa1=>?_) (λa1=>?_)
 ·refine go ?_;intro _ _ y hy;refine go ?_;refine az rfl (λa2=>?_) (λa2=>?_)
  ·refine go ?_;refine ah () (hv:=?_) (hp:=trivial);rw[eY (show x∈xs by rw[<- a2];exact aP hy)];rfl
  ·refine go ?_;refine aM (j+1) (by show xs.length - (j+1)<xs.length - j;omega) ⟨vj,?_⟩;rw[bU hy];intro hx;rcases dW.1 hx with hx|hx
   ·exact hno hx
   ·exact a2 (bK.1 hx).symm
 have gV:j=xs.length:=vj
 subst gV;rw[bJ]at hno;refine go ?_;exact nr
end Go.Proofs.YtfakljdleblkoaaGreat
namespace Go.Proofs.YtfakljdleblkoaaGreat
open Go.Ideal Kd Canon
noncomputable def ajY:=qj Tryz.prog 25
theorem aky:kU Tryz.prog 25=some ajY:=vA
theorem ajZ{va vb:Value}{xs ys:List Int}(hl:xs.length<9223372036854775808):dL Tryz.prog 25 [va,vb] [ai ae va xs,ai ae vb ys] (.bool (decide (xs=ys))):=by
 refine aH ajY aky λB w0=>?_;refine aT (E:=ae) (v:=va) (xs:=xs) vm λa1 c1 e1=>?_;subst e1;refine aT (E:=ae) (v:=vb) (xs:=ys) vm λa2 c2 e2=>?_;subst e2;refine go ?_;refine az rfl (λh1=>?_) (λh1=>?_)
 ·exact c7
 exact ck
theorem agc{sc st:Value}{s t:List Int}:aU Tryz.prog (.func 12) [.agg ⟨[sc,st]⟩] [] [] [ai ae sc s,ai ae st t] (λb:Bool=>.bool b) (λ_=>[]) (λ_=>[]) (λb=>b=true->s.length<=20/\t.length<=20):=by
 refine aH _ (aN 12) λB w0=>?_;refine go ?_;intro b1;refine go ?_;refine gG (λh1=>?_) (λh1=>?_)
 ·exact cV
 refine go ?_;refine ah (decide ((t.length:Int)<=20)) (hv:=rfl) (hp:=λh=>?_);have h:=gQ h;exact⟨vj,vj⟩
end Go.Proofs.YtfakljdleblkoaaGreat
namespace Go.Proofs.YtfakljdleblkoaaGreat
open Go.Ideal Kd Canon
theorem Vh{k:Int}(h:(fH k).read=true):1<=k/\k<=11:=by
 apply Classical.byContradiction;intro hn;have hc:(k<0\/14<=k)\/k=0\/k=12\/k=13:=vj
 rcases hc with hc|rfl|rfl|rfl
 ·rw[Cx hc]at h;cases h
 ·cases h
 ·cases h
 ·cases h
theorem Vi{dJ:List ByteArray}(hs:dJ.length<=16):∀(l:List ByteArray),(∀s∈l,s∈dJ)->fG dJ l<2^16:=by
 have h:∀(l:List ByteArray) (m:Nat),m<2^16->(∀s∈l,s∈dJ)->l.foldl (λm s=>m|||1<<<dS s dJ) m<2^16:=by
  exact hU
 intro l hl;exact h l 0 wj hl
variable{k:bS}
theorem eF.nA(h:eF k){r:bA}(hr:r∈k.decl.rules):∃q∈k.decl.rules,r=mI (bN k.decl) (bX k.decl) (dI k.decl) q:=by
 have h1:r∈(Kd.bF k.decl).rules:=by rw[<- h.decl];exact hr
 obtain⟨q,hq,e⟩:=eG.1 (show r∈k.decl.rules.map (mI (bN k.decl) (bX k.decl) (dI k.decl))from h1);exact⟨q,hq,e.symm⟩
theorem eF.iF(h:eF k):k.lists.length=8+k.decl.regions.length:=by
 rw[h.lists];unfold lc;rw[iE,cz,cz,o8]
theorem eF.bZ(h:eF k):eD (aO k.decl):=⟨h.typ.Cy,rfl⟩
theorem eF.inr(h:eF k){r:bA}(hr:r∈k.decl.rules):Vd k r:=by
 obtain⟨q,hq,rfl⟩:=h.nA hr;have hro:=h.b.rs.nA q hq;have hl:=h.iF;have hfl:(bX k.decl).length=8+k.decl.regions.length:=by
  unfold bX;rw[iE,cz];rfl
 refine⟨?_,?_⟩
 ·show 0<=(if q.on=⟨⟨[]⟩⟩then(0:Int)else(dS q.on (bX k.decl):Int))/\(if q.on=⟨⟨[]⟩⟩then(0:Int)else(dS q.on (bX k.decl):Int))<_;by_cases e:q.on=⟨⟨[]⟩⟩
  ·rw[if_pos e];omega
  ·rw[if_neg e];have:=w9 (hro.on.resolve_left e);omega
 ·show(if q.dm=⟨⟨[]⟩⟩then(-1:Int)else(dS q.dm (dI k.decl):Int))<_;by_cases e:q.dm=⟨⟨[]⟩⟩
  ·rw[if_pos e];omega
  ·rw[if_neg e];have h1:=w9 (hro.dm.resolve_left e);have h2:(dI k.decl).length=k.decl.aJ.length:=by unfold dI;rw[cz]
   omega
end Go.Proofs.YtfakljdleblkoaaGreat
set_option maxHeartbeats 1000000
namespace Go.Proofs.YtfakljdleblkoaaGreat
open Go.Ideal Kd Canon Gph
structure RF(k:bS)(r:bA):Prop where
 kd:1<=r.kind/\r.kind<=11
 x:uJ (fH r.kind) k.decl.aJ r
 by0:r.dm=oz↔r.aQ<0
 s1:∃n:Nat,r.set=(n:Int)/\n<2^k.decl.symbols.length
 s2:∃n:Nat,r.other=(n:Int)/\n<2^k.decl.symbols.length
 f0:0<=r.family/\r.family<k.lists.length
 cl:0<=r.aQ->(r.kind=2\/r.kind=3\/r.kind=5\/r.kind=11)/\∃c,k.decl.aJ[r.aQ.toNat]? =some c/\c.family=Ah r/\ow c/\(r.kind=2\/r.kind=3->c.type=2)/\(r.kind=5->c.type=3)/\(r.kind=11->c.type=1)
 ncl:r.kind=5\/r.kind=11->0<=r.aQ
 op:r.kind=2\/r.kind=3->1<=r.op/\r.op<=3
theorem Vj{dJ:List ByteArray}:∀(l:List ByteArray),(∀s∈l,s∈dJ)->fG dJ l<2^dJ.length:=by
 have h:∀(l:List ByteArray) (m:Nat),m<2^dJ.length->(∀s∈l,s∈dJ)->l.foldl (λm s=>m|||1<<<dS s dJ) m<2^dJ.length:=by
  exact hU
 intro l hl;exact h l 0 (Nat.two_pow_pos _) hl
variable{k:bS}
theorem eF.rf(hK:eF k){r:bA}(hr:r∈k.decl.rules):RF k r:=by
 have hty:=hK.typ;have hin:=hK.inr hr;obtain⟨q,hq,hre⟩:=hK.nA hr;have hro:=hK.b.rs.nA q hq;have hrx:=hty.form.lQ r hr;have hkd:1<=r.kind/\r.kind<=11:=by
  refine Vh ?_;have:=hty.read;exact kB
 have hsl:(bN k.decl).length=k.decl.symbols.length:=by unfold bN;rw[cz]
 have hb1:r.dm=q.dm:=by rw[hre];rfl
 have hb2:r.aQ=if q.dm=oz then(-1:Int)else(dS q.dm (dI k.decl):Int):=by rw[hre];rfl
 have hby:r.dm=oz↔r.aQ<0:=by
  rw[hb1,hb2];by_cases e:q.dm=oz
  ·rw[if_pos e];exact⟨λ_=>by omega,λ_=>e⟩
  ·rw[if_neg e];exact⟨λh=>absurd h e,λh=>by omega⟩
 refine⟨hkd,hrx,hby,⟨fG (bN k.decl) q.names,by rw[hre];rfl,by rw[<- hsl];exact Vj _ hro.names⟩,⟨fG (bN k.decl) q.others,by rw[hre];rfl,by rw[<- hsl];exact Vj _ hro.others⟩,hin.iK,?_,?_,?_⟩
 ·intro hc;have hne:r.dm≠oz:=λe=>by have:=hby.1 e;omega
  rcases hrx.U4 _ rfl with⟨_,a,_⟩|⟨a0,a1,a2,c,a3,a4,a5⟩
  ·exact absurd a hne
  have hcp:=(hty.form.jR _ c a3).2;have hk:r.kind=1\/r.kind=2\/r.kind=3\/r.kind=4\/r.kind=5\/r.kind=6\/r.kind=7\/r.kind=8\/r.kind=9\/r.kind=10\/r.kind=11:=vj
  have hf:∀f:Int,Ah r=f->c.family=f->c.family=Ah r:=λf h1 h2=>by omega
  rcases hk with e|e|e|e|e|e|e|e|e|e|e<;>rw[e]at a0 a4 a5<;>simp[fH,hne]at a0 a4 a5
  ·exact fR
  ·exact fR
  ·exact fR
  ·refine⟨vj,c,a3,?_,hcp,vj,vj,vj⟩;unfold Ah;rw[if_neg vj,if_neg vj,if_pos e];unfold ow at hcp;omega
 ·intro h;rcases hrx.U4 _ rfl with⟨a0,_,_⟩|⟨_,a1,_⟩
  ·rcases h with e|e<;>rw[e]at a0<;>simp[fH]at a0
  ·exact a1
 ·intro h;refine hrx.op.1 ?_;rcases h with e|e<;>rw[e]<;>rfl
theorem RF.vals{p:List Clue}{r:bA}{ls:List (List Int)}(h:RF k r)(hQ:Ck k p){y:Nat×List Int×List Int}(hy:y∈M6 p r ls):
 (r.aQ<0/\y.2.2=[])\/(0<=r.aQ/\∃c,k.decl.aJ[r.aQ.toNat]? =some c/\ow c/\((c.type=1/\r.kind=11/\y.2.2.length=1/\∀x∈y.2.2,0<=x/\x<=(k.decl.symbols.length:Int) - 1)\/(c.type=2/\(r.kind=2\/r.kind=3)/\y.2.2.length=1/\∀x∈y.2.2,0<=x/\x<=65536)\/
   (c.type=3/\r.kind=5/\y.2.2.length<=8/\∀x∈y.2.2,1<=x/\x<=256))):=by
 obtain⟨h1,h2⟩:=adt.1 hy;rcases h2 with h2|⟨h2,h3⟩
 ·exact .inl h2
 right;refine⟨h2,?_⟩;obtain⟨hk,c,c1,c2,c3,c4,c5,c6⟩:=h.cl h2;refine⟨c,c1,c3,?_⟩;obtain⟨g,g1,g2,g3,g4⟩:=(ads hQ).1 h3;obtain⟨c',l,a1,a2,a3,a4,a5,a6⟩:=hQ.right g g1;rw[g2,c1]at a2;cases a2;rw[g4]at a6;have hcp:=c3;unfold ow at hcp;have hn:∀x:Int,c.lo<=x/\x<=c.hi->c.type=2->0<=x/\x<=65536:=λx hx ht=>by omega
 rcases a6 with⟨b1,b2,b3⟩|⟨b1,b2,b3⟩|⟨b1,b2,b3,b4⟩
 ·exact .inl ⟨b1,vj,b2,b3⟩
 ·exact .inr (.inl ⟨b1,vj,b2,λx hx=>hn x (b3 x hx) b1⟩)
 ·exact .inr (.inr ⟨vj,vj,b3,b4⟩)
