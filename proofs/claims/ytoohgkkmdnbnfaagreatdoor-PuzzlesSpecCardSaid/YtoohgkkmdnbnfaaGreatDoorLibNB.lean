/-
  Puzzles checked.
-/
import Derived.Test.YtoohgkkmdnbnfaaGreatDoorLibKB
import Derived.Test.YtoohgkkmdnbnfaaGreatDoorLibMB
import Derived.Test.YtoohgkkmdnbnfaaGreatDoorLibLB
set_option linter.all false
set_option maxRecDepth 10000
set_option maxHeartbeats 4000000
namespace Go.Proofs.YtoohgkkmdnbnfaaGreatDoor
open Go.Ideal Kd Canon
structure zl(p:List Clue):Prop where
 len:p.length<9223372036854775808
 vals:∀g∈p,g.values.length<9223372036854775808
theorem adL{k:eT}{g:Clue}{vh vs vr vc vu gh gc vn vl vv:Value}(hS:nZ k)(hF:DX k)(hv:g.values.length<9223372036854775808):
 aZ Tryz.prog (.func 37) [.agg ⟨mD k vh vs vr vc vu gh gc vn vl⟩,ru g vv] [] [] (ah ae vv g.values::lH k vh vs vr vc vu gh gc vn vl []) (λb:Bool=>.bool b) (λ_=>[]) (λ_=>[]) (λb=>b=true↔rz k g):=by
 have hcl:=hS.d.s.ja;have hsl:=hS.d.s.dU;refine aG _ (aM 37) λB w0=>?_;refine aT (E:=bC) (v:=vc) (xs:=k.decl.aF) (by simp) λac cc ec=>?_;subst ec;refine aT (E:=fu) (v:=vs) (xs:=k.decl.symbols) (by simp) λnY cs1 es1=>?_;subst es1;refine aT (E:=aj (aj ae)) (v:=vl) (xs:=k.lists) (by simp) λal cl el=>?_;subst el;refine aT (E:=ae) (v:=vv) (xs:=g.values) (by simp) λav cv zk=>?_;subst zk;refine go ?_;intro b2 b3;refine bB (fG (b:=b2)) (h:=?_);refine bB (fG (b:=b3)) (h:=?_);refine go ?_;first|with_reducible refine aL (λh1=>?_) (λh1=>?_)|with_reducible refine aK (λh1=>?_) (λh1=>?_)|with_reducible refine aI (λh1=>?_) (λh1=>?_)
 rotate_left
 ·refine go ?_;exact aa false (hv:=rfl) (hp:=⟨(λh=>by cases h),λ⟨c,l,h,_⟩=>by omega⟩)
 refine go ?_;refine az rfl (λh2=>?_) (λh2=>?_)
 ·refine go ?_;refine aa false (hv:=rfl) (hp:=⟨(λh=>by cases h),λ⟨c,l,_,h,_⟩=>?_⟩);have:=(bT.1 h).1;omega
 obtain⟨ci,hci⟩:=qy (show 0<=g.aQ by omega);have hg0:0<=g.aQ:=by omega
 have Jc:ci<k.decl.aF.length:=by omega
 have htn:g.aQ.toNat=ci:=by omega
 refine go ?_;rw[hci];refine aY bC (xs:=k.decl.aF) (next:=λ_ _ c (_:Unit) hc=>?_);obtain⟨hf0,hf1⟩:=hF c (bJ hc);refine go ?_;intro b5;refine go ?_;first|with_reducible refine aL (λh3=>?_) (λh3=>?_)|with_reducible refine aK (λh3=>?_) (λh3=>?_)|with_reducible refine aI (λh3=>?_) (λh3=>?_)
 rotate_left
 ·refine go ?_;exact aa false (hv:=rfl) (hp:=⟨(λh=>by cases h),λ⟨c,l,_,_,_,h,_⟩=>by omega⟩)
 refine go ?_;obtain⟨fi,hfi⟩:=qy hf0;have Ep:c.family.toNat=fi:=by omega
 rw[hfi];refine aY (aj (aj ae)) (xs:=k.lists) (next:=λ_ _ ls (vls:Value) hls=>?_);refine go ?_;refine az rfl (λh4=>?_) (λh4=>?_)
 ·refine go ?_;refine aa false (hv:=rfl) (hp:=⟨(λh=>by cases h),λ⟨c',l',_,q1,q2,q3,q4,_⟩=>?_⟩);rw[htn,hc]at q1;cases q1;rw[Ep,hls]at q2;cases q2;omega
 have hR:∀b:Bool,(b=true↔((c.type=1/\g.values.length=1/\∀x∈g.values,0<=x/\x<=(k.decl.symbols.length:Int) - 1)\/(c.type=2/\g.values.length=1/\∀x∈g.values,c.lo<=x/\x<=c.hi)\/
  (c.type≠1/\c.type≠2/\g.values.length<=8/\∀x∈g.values,1<=x/\x<=256)))->(b=true↔rz k g):=λb hb=>by
  rw[hb];refine⟨λh=>⟨c,ls,hg0,by rw[htn];exact hc,by rw[Ep];exact hls,by omega,by omega,h⟩,λ⟨c',l',_,q1,_,_,_,h⟩=>?_⟩;rw[htn,hc]at q1;cases q1;exact h
 refine go ?_;refine az rfl (λh5=>?_) (λh5=>?_)
 ·refine go ?_;first|with_reducible refine aL (λh6=>?_) (λh6=>?_)|with_reducible refine aK (λh6=>?_) (λh6=>?_)|with_reducible refine aI (λh6=>?_) (λh6=>?_)
  ·refine go ?_;exact aa false (hv:=rfl) (hp:=hR _ ⟨(λh=>by cases h),λh=>by exfalso;omega⟩)
  refine go ?_;refine ak (KP (xs:=g.values) (lo:=0) (hi:=(k.decl.symbols.length:Int) - 1) hv) (next:=λ_ _=>?_);refine go ?_;refine aa (vC g.values 0 ((k.decl.symbols.length:Int) - 1)) (hv:=rfl) (hp:=hR _ ?_);unfold vC;rw[Bt];exact⟨λh=>.inl ⟨h5,by omega,h⟩,λh=>by rcases h with h|h|h;exact h.2.2;exact absurd h5 (by omega);exact absurd h5 h.1⟩
 refine go ?_;refine az rfl (λh6=>?_) (λh6=>?_)
 ·refine go ?_;first|with_reducible refine aL (λh7=>?_) (λh7=>?_)|with_reducible refine aK (λh7=>?_) (λh7=>?_)|with_reducible refine aI (λh7=>?_) (λh7=>?_)
  ·refine go ?_;exact aa false (hv:=rfl) (hp:=hR _ ⟨(λh=>by cases h),λh=>by exfalso;omega⟩)
  refine go ?_;refine ak (KP (xs:=g.values) (lo:=c.lo) (hi:=c.hi) hv) (next:=λ_ _=>?_);refine go ?_;refine aa (vC g.values c.lo c.hi) (hv:=rfl) (hp:=hR _ ?_);unfold vC;rw[Bt];exact⟨λh=>.inr (.inl ⟨h6,by omega,h⟩),λh=>by rcases h with h|h|h;exact absurd h.1 h5;exact h.2.2;exact absurd h6 h.2.1⟩
 refine go ?_;first|with_reducible refine aL (λh7=>?_) (λh7=>?_)|with_reducible refine aK (λh7=>?_) (λh7=>?_)|with_reducible refine aI (λh7=>?_) (λh7=>?_)
 ·refine go ?_;exact aa false (hv:=rfl) (hp:=hR _ ⟨(λh=>by cases h),λh=>by exfalso;omega⟩)
 refine go ?_;refine ak (KP (xs:=g.values) (lo:=1) (hi:=256) hv) (next:=λ_ _=>?_);refine go ?_;refine aa (vC g.values 1 256) (hv:=rfl) (hp:=hR _ ?_);unfold vC;rw[Bt];exact⟨λh=>.inr (.inr ⟨h5,h6,by omega,h⟩),λh=>by rcases h with h|h|h;exact absurd h.1 h5;exact absurd h.1 h6;exact h.2.2.2⟩
end Go.Proofs.YtoohgkkmdnbnfaaGreatDoor
namespace Go.Proofs.YtoohgkkmdnbnfaaGreatDoor
open Go.Ideal Kd Canon
theorem gP.decl{k:eT}(h:gP k):k.decl=Kd.bi k.decl:=congrArg eT.decl h.e
theorem gP.lists{k:eT}(h:gP k):k.lists=nT k.decl:=by
 have:=congrArg eT.lists h.e;have h2:(jL (Kd.bi k.decl)).lists=nT (Kd.bi k.decl):=rfl;rw[h2,<- h.decl]at this;exact this
theorem gP.grid{k:eT}(h:gP k):k.grid=aP k.decl:=by
 have:=congrArg eT.grid h.e;have h2:(jL (Kd.bi k.decl)).grid=aP (Kd.bi k.decl):=rfl;rw[h2,<- h.decl]at this;exact this
theorem gP.bR{k:eT}(h:gP k):k.bR=bD (aP k.decl):=by
 have:=congrArg eT.bR h.e;have h2:(jL (Kd.bi k.decl)).bR=bD (aP (Kd.bi k.decl)):=rfl;rw[h2,<- h.decl]at this;exact this
theorem gP.typ{k:eT}(h:gP k):Ei k.decl:=by
 have:=h.b.typ;rw[<- h.decl]at this;exact this
theorem gP.rq{k:eT}(h:gP k):DX k:=by
 intro c hc;rw[h.decl]at hc;obtain⟨q,hq,rfl⟩:=je.1 (show c∈k.decl.aF.map (kG (bQ k.decl))from hc);have h1:=yS (h.b.rs.Kn q hq);have h2:(bQ k.decl).length=8+k.decl.regions.length:=by
  unfold bQ;rw[gB,di];rfl
 have h3:k.lists.length=8+k.decl.regions.length:=by
  rw[h.lists];unfold nT;rw[gB,di,di,Mx]
 show 0<=((dO q.on (bQ k.decl):Nat):Int)/\((dO q.on (bQ k.decl):Nat):Int)<_;omega
theorem adN{k:eT}{p:List Clue}{vh vs vr vc vu gh gc vn vl vp:Value}(hS:nZ k)(hP:zl p):
 aZ Tryz.prog (.func 15) [.agg ⟨mD k vh vs vr vc vu gh gc vn vl⟩,.agg ⟨[vp]⟩] [] [] (ah bU vp p::lH k vh vs vr vc vu gh gc vn vl []) (λe:Int=>.int .i64 e) (λ_=>[]) (λ_=>[])
  (λe=>(¬gP k->e=180)/\(gP k->¬sI k p->e=190)/\(gP k->sI k p->e=0)):=by
 refine aG _ (aM 15) λB w0=>?_;refine aT (E:=bU) (v:=vp) (xs:=p) (by simp) λLK cp ep=>?_;subst ep;refine go ?_;intro b2 b3;refine bB (fG (b:=b2)) (h:=?_);refine bB (fG (b:=b3)) (h:=?_);refine go ?_;refine ak (adE (k:=k) (vh:=vh) (vs:=vs) (vr:=vr) (vc:=vc) (vu:=vu) (gh:=gh) (gc:=gc) (vn:=vn) (vl:=vl) hS) (next:=λb hb=>?_);cases b with
 |false=>
  have hno:¬gP k:=λh=>by have:=hb.2 h;cases this
  dsimp only[cond];refine go ?_;exact aa 180 (hv:=rfl) (hp:=⟨λ_=>rfl,λh=>absurd h hno,λh=>absurd h hno⟩)
 |true=>
 have hK:=hb.1 rfl;clear hb;have hend:¬sI k p->(¬gP k->(190:Int)=180)/\(gP k->¬sI k p->(190:Int)=190)/\(gP k->sI k p->(190:Int)=0):=λhn=>⟨λh=>absurd hK h,λ_ _=>rfl,λ_ h=>absurd h hn⟩
 dsimp only[cond];refine go ?_;refine az rfl (λh1=>?_) (λh1=>?_)
 ·refine go ?_;exact aa 190 (hv:=rfl) (hp:=hend λh=>by have:=h.len;omega)
 refine go ?_;refine aX (λj:Nat=>p.length - j) (λj=>[(17,.int .i64 (j:Int))]) (λ_=>[]) (λ_=>[]) (λj=>j<=p.length/\(∀g∈p.take j,rz k g)/\∀(i:Nat) a b,i+1<j->p[i]? =some a->p[i+1]? =some b->gK a b<0) 0 ⟨bX _,by simp,λi a b h=>by omega⟩ (body:=?_);rintro j ⟨hj,hall,hs⟩;refine go ?_;refine az rfl (λh2=>?_) (λh2=>?_)
 ·refine go ?_;refine aY bU (xs:=p) (next:=λ_ _ g (vg:Value) hg=>?_);have hgm:=bJ hg;have htk:=bV hg;refine go ?_;intro b6;refine go ?_;refine ak (adL (k:=k) (g:=g) (vh:=vh) (vs:=vs) (vr:=vr) (vc:=vc) (vu:=vu) (gh:=gh) (gc:=gc) (vn:=vn) (vl:=vl) (vv:=vg) hS hK.rq (hP.vals g hgm)) (next:=λb hb=>?_);cases b with
  |false=>
   refine go ?_;exact aa 190 (hv:=rfl) (hp:=hend λh=>by have:=hb.2 (h.right g hgm);cases this)
  |true=>
  have hR:=hb.1 rfl;have Er:∀x∈p.take (j+1),rz k x:=by
   rw[htk];intro x hx;rcases dZ.1 hx with hx|hx
   ·exact hall x hx
   ·rw[bG.1 hx];exact hR
  refine go ?_;first|with_reducible refine aL (λh3=>?_) (λh3=>?_)|with_reducible refine aK (λh3=>?_) (λh3=>?_)|with_reducible refine aI (λh3=>?_) (λh3=>?_)
  ·have hj0:j=0:=by omega
   subst hj0;refine go ?_;exact aO 1 (by show p.length - 1<p.length - 0;omega) ⟨by omega,Er,λi a b h=>by omega⟩
  obtain⟨i,rfl⟩:∃i,j=i+1:=⟨j - 1,by omega⟩
  refine go ?_;rw[show((i+1:Nat):Int) - 1=(i:Int)by omega];refine aY bU (xs:=p) (next:=λ_ _ g0 (LM:Value) hg0=>?_);refine go ?_;refine ak (Sy (a:=g0) (b:=g) (va:=LM) (vb:=vg)) (next:=λ_ _=>?_);refine go ?_;refine az rfl (λh4=>?_) (λh4=>?_)
  ·refine go ?_;exact aa 190 (hv:=rfl) (hp:=hend λh=>by have:=h.sorted i g0 g hg0 hg;omega)
  ·refine go ?_;refine aO (i+1+1) (by show p.length - (i+1+1)<p.length - (i+1);omega) ⟨by omega,Er,λi' a b h ha hb=>?_⟩;by_cases e:i'=i
   ·subst e;rw[hg0]at ha;rw[hg]at hb;cases ha;cases hb;omega
   ·exact hs i' a b (by omega) ha hb
 have jM:j=p.length:=by omega
 subst jM;rw[bK]at hall;refine go ?_;exact aa 0 (hv:=rfl) (hp:=⟨λh=>absurd hK h,λ_ h=>absurd ⟨by omega,hall,λi a b ha hb=>hs i a b (bT.1 hb).1 ha hb⟩ h,λ_ _=>rfl⟩)
abbrev LP(k:eT)(grid:List Int):Prop:=Fin (k.grid.cells.length:Int) (k.decl.symbols.length:Int) grid
structure agF(k:eT)(p:List Clue)(grid:List Int)(e:Int):Prop where
 nk:¬gP k->e=180
 nf:gP k->¬LP k grid->e=200
 np:gP k->LP k grid->¬sI k p->e=190
 ok:gP k->LP k grid->sI k p->e=0
end Go.Proofs.YtoohgkkmdnbnfaaGreatDoor
namespace Go.Proofs.YtoohgkkmdnbnfaaGreatDoor
open Go.Ideal Kd Canon
def adO(k:eT):List Int:=k.decl.symbols.map (·.value)
structure SF(k:eT)(r:bM):Prop where
 rq:0<=r.family/\r.family<k.lists.length
 aQ:r.aQ<k.decl.aF.length
end Go.Proofs.YtoohgkkmdnbnfaaGreatDoor
namespace Go.Proofs.YtoohgkkmdnbnfaaGreatDoor
open Go.Ideal Kd Canon
end Go.Proofs.YtoohgkkmdnbnfaaGreatDoor
namespace Go.Proofs.YtoohgkkmdnbnfaaGreatDoor
open Go.Ideal Kd Canon
end Go.Proofs.YtoohgkkmdnbnfaaGreatDoor
namespace Go.Proofs.YtoohgkkmdnbnfaaGreatDoor
open Go.Ideal Kd Canon
structure SG(k:eT)(p:List Clue)(grid:List Int)(r:bM)(set other:Nat):Prop where
 s:nZ k
 ps:zl p
 rq:DX k
 rin:SF k r
 right:∀g∈p,rz k g
 gri:aa0 grid
 cells:∀x∈Gn k p r,aa2 grid x.1
 vals:aa3 (adO k) grid
 bS:jG k.bR
 Sq:grid.length=k.bR.length
 st:r.set=(set:Int)/\set<9223372036854775808
 ot:r.other=(other:Int)/\other<9223372036854775808
 kind:1<=r.kind/\r.kind<=11
 giv:r.kind=2\/r.kind=3\/r.kind=11->∀x∈Gn k p r,0<x.2.length
 few:∀x∈Gn k p r,x.1.length<=4096
 one:r.kind=11->∀x∈Gn k p r,0<x.1.length
section
variable {k:eT} {p:List Clue} {grid:List Int} {r:bM} {set other:Nat} {bv br:Nat} {vh vs vr vc vu gh gc vn vl vp vg vv v1 v2:Value}
theorem SG.bR(H:SG k p grid r set other):∀l∈k.bR,∀b∈l,0<=b/\b<grid.length:=by
 intro l hl b hb;obtain⟨i,hi⟩:=qo hl;obtain⟨j,hj⟩:=qo hb;have:=H.bS.ok i l hi j b hj;have:=H.Sq;omega
end
end Go.Proofs.YtoohgkkmdnbnfaaGreatDoor
namespace Go.Proofs.YtoohgkkmdnbnfaaGreatDoor
open Go.Ideal Kd Canon
end Go.Proofs.YtoohgkkmdnbnfaaGreatDoor
namespace Go.Proofs.YtoohgkkmdnbnfaaGreatDoor
open Go.Ideal Kd Canon
theorem gP.wT{k:eT}(h:gP k){r:bM}(hr:r∈k.decl.rules):∃q∈k.decl.rules,r=lg (bN k.decl) (bQ k.decl) (dD k.decl) q:=by
 have h1:r∈(Kd.bi k.decl).rules:=by rw[<- h.decl];exact hr
 obtain⟨q,hq,e⟩:=je.1 (show r∈k.decl.rules.map (lg (bN k.decl) (bQ k.decl) (dD k.decl))from h1);exact⟨q,hq,e.symm⟩
theorem gP.ig{k:eT}(h:gP k):k.lists.length=8+k.decl.regions.length:=by
 rw[h.lists];unfold nT;rw[gB,di,di,Mx]
theorem gP.bS{k:eT}(h:gP k):fV (aP k.decl):=⟨h.typ.A8,rfl⟩
theorem gP.inr{k:eT}(h:gP k){r:bM}(hr:r∈k.decl.rules):SF k r:=by
 obtain⟨q,hq,rfl⟩:=h.wT hr;have hro:=h.b.rs.wT q hq;have hl:=h.ig;have hfl:(bQ k.decl).length=8+k.decl.regions.length:=by
  unfold bQ;rw[gB,di];rfl
 refine⟨?_,?_⟩
 ·show 0<=(if q.on=⟨⟨[]⟩⟩then(0:Int)else(dO q.on (bQ k.decl):Int))/\(if q.on=⟨⟨[]⟩⟩then(0:Int)else(dO q.on (bQ k.decl):Int))<_;by_cases e:q.on=⟨⟨[]⟩⟩
  ·rw[if_pos e];omega
  ·rw[if_neg e];have:=yS (hro.on.resolve_left e);omega
 ·show(if q.dL=⟨⟨[]⟩⟩then(-1:Int)else(dO q.dL (dD k.decl):Int))<_;by_cases e:q.dL=⟨⟨[]⟩⟩
  ·rw[if_pos e];omega
  ·rw[if_neg e];have h1:=yS (hro.dL.resolve_left e);have h2:(dD k.decl).length=k.decl.aF.length:=by unfold dD;rw[di]
   omega
end Go.Proofs.YtoohgkkmdnbnfaaGreatDoor
namespace Go.Proofs.YtoohgkkmdnbnfaaGreatDoor
open Go.Ideal Kd Canon
structure Bb(k:eT):Prop where
 dw:jK k.decl.w
 dh:jK k.decl.h
 gw:jK k.grid.w
 gh:jK k.grid.h
 holes:k.decl.holes.length<9223372036854775808
 dU:k.decl.symbols.length<9223372036854775808
 regs:k.decl.regions.length<9223372036854775808
 qd:∀r∈k.decl.regions,r.lists.length<9223372036854775808/\∀l∈r.lists,l.length<9223372036854775808
 ja:k.decl.aF.length<9223372036854775808
 ko:k.decl.rules.length<9223372036854775808
 qc:∀r∈k.decl.rules,r.names.length<9223372036854775808/\r.others.length<9223372036854775808
 GN:k.grid.holes.length<9223372036854775808
 cells:k.grid.cells.length<9223372036854775808
 bR:k.bR.length<9223372036854775808/\∀l∈k.bR,l.length<9223372036854775808
 lists:k.lists.length<9223372036854775808/\∀l∈k.lists,l.length<9223372036854775808/\∀m∈l,m.length<9223372036854775808
structure adP(k:eT):Prop where
 cells:k.grid.cells.length<=16
 GN:k.grid.holes.length<=256
 bR:k.bR.length<=20
 lists:k.lists.length<=12
 dU:k.decl.symbols.length<=6
 regs:k.decl.regions.length<=6
 ja:k.decl.aF.length<=6
 ko:k.decl.rules.length<=10
 holes:k.decl.holes.length<=256
 each:∀l∈k.lists,l.length<=40
 reg:∀r∈k.decl.regions,r.lists.length<=20
theorem nZ.of{k:eT}(hB:Bb k)(hF:adP k):nZ k:=by
 have f1:=hF.cells;have f2:=hF.GN;have f5:=hF.dU;have f6:=hF.regs;have f7:=hF.ja;have f8:=hF.ko;have f9:=hF.holes;exact⟨⟨⟨by omega,by omega,by omega,by omega,hB.qc,hB.holes,hB.qd⟩,hB.dw,hB.dh,by omega⟩,⟨hB.gw,hB.gh,by omega,by omega⟩,hB.bR,hB.lists⟩
end Go.Proofs.YtoohgkkmdnbnfaaGreatDoor
namespace Go.Proofs.YtoohgkkmdnbnfaaGreatDoor
open Go.Ideal Kd Canon
noncomputable def LQ:gF:=⟨27,[(.tmp 4)],(.seq (.ops [4] [⟨⟨(some 4),none,(.iM (.const (.slice none 0 0)))⟩,[]⟩]) (.seq (.seq (.ops [5,6] [⟨⟨(some 5),none,(.mv (.tmp 1))⟩,[]⟩,⟨⟨(some 6),none,(.bin .lss 3 (.tmp 5) (.const (.int .i64 0)))⟩,[]⟩]) (.cond (.tmp 6) (.ops [7] [⟨⟨(some 7),none,(.iface 9 (.const (.string ⟨⟨[99,97,110,110,111,116,32,98,101,32,110,101,103,97,116,105,118,101]⟩⟩)))⟩,[]⟩,⟨⟨none,none,(.panic (.tmp 7))⟩,[]⟩]) .skip)) (.seq (.seq (.ops [8,9,10,11,12,13,14,1] [⟨⟨(some 8),none,(.mv (.tmp 1))⟩,[]⟩,⟨⟨(some 9),none,(.mv (.tmp 0))⟩,[]⟩,⟨⟨(some 10),none,(.Bv (.tmp 9))⟩,[]⟩,⟨⟨(some 11),none,(.mv (.tmp 0))⟩,[]⟩,⟨⟨(some 12),none,(.oC (.tmp 11))⟩,[]⟩,⟨⟨(some 13),none,(.bin .sub 3 (.tmp 10) (.tmp 12))⟩,[]⟩,⟨⟨(some 14),none,(.bin .sub 3 (.tmp 8) (.tmp 13))⟩,[]⟩,⟨⟨(some 1),none,(.iM (.tmp 14))⟩,[]⟩]) (.seq (.ops [15,16] [⟨⟨(some 15),none,(.mv (.tmp 1))⟩,[]⟩,⟨⟨(some 16),none,(.bin .gtr 3 (.tmp 15) (.const (.int .i64 0)))⟩,[]⟩]) (.cond (.tmp 16) (.ops [17,18,19,20,21,22,23,24,25,0] [⟨⟨(some 17),none,(.mv (.tmp 0))⟩,[]⟩,⟨⟨(some 18),none,(.mv (.tmp 0))⟩,[]⟩,⟨⟨(some 19),none,(.Bv (.tmp 18))⟩,[]⟩,⟨⟨(some 20),none,(.uq 3 (.tmp 17) none (some (.tmp 19)) none)⟩,[]⟩,⟨⟨(some 21),none,(.mv (.tmp 1))⟩,[]⟩,⟨⟨(some 22),none,(.zA 59 3 40 [(.int .i64 0),(.int .i64 0),(.slice none 0 0)] (.tmp 20) (.tmp 21))⟩,[]⟩,⟨⟨(some 23),none,(.mv (.tmp 0))⟩,[]⟩,⟨⟨(some 24),none,(.oC (.tmp 23))⟩,[]⟩,⟨⟨(some 25),none,(.uq 3 (.tmp 22) none (some (.tmp 24)) none)⟩,[]⟩,⟨⟨(some 0),none,(.iM (.tmp 25))⟩,[]⟩]) .skip))) (.seq (.ops [26,4] [⟨⟨(some 26),none,(.mv (.tmp 0))⟩,[]⟩,⟨⟨(some 4),none,(.iM (.tmp 26))⟩,[]⟩]) .ret))))⟩
theorem SH:kz Tryz.prog 66=some LQ:=by kernel_rfl
noncomputable def SI:gF:=⟨36,[(.tmp 2)],(.seq (.ops [2] [⟨⟨(some 2),none,(.iM (.const (.slice none 0 0)))⟩,[]⟩]) (.seq (.ops [3] [⟨⟨(some 3),none,(.iM (.const (.int .i64 0)))⟩,[]⟩]) (.seq (.seq (.ops [9,10,11] [⟨⟨(some 9),none,(.mv (.tmp 0))⟩,[]⟩,⟨⟨(some 10),none,(.oC (.tmp 9))⟩,[]⟩,⟨⟨(some 11),none,(.mv (.const (.int .i64 0)))⟩,[]⟩]) (.block 0 (.loop (.seq (.ops [12] [⟨⟨(some 12),none,(.bin .lss 3 (.tmp 11) (.tmp 10))⟩,[]⟩]) (.seq (.cond (.tmp 12) .skip (.exit 0)) (.seq (.block 1 (.seq (.ops [13,14,5] [⟨⟨(some 13),none,(.kV 1 (.tmp 9) (.tmp 11))⟩,[]⟩,⟨⟨(some 14),none,(.fT (.tmp 13))⟩,[]⟩,⟨⟨(some 5),none,(.iM (.tmp 14))⟩,[]⟩]) (.seq (.ops [15,16,17,18,3] [⟨⟨(some 15),none,(.mv (.tmp 3))⟩,[]⟩,⟨⟨(some 16),none,(.mv (.tmp 5))⟩,[]⟩,⟨⟨(some 17),none,(.oC (.tmp 16))⟩,[]⟩,⟨⟨(some 18),none,(.bin .add 3 (.tmp 15) (.tmp 17))⟩,[]⟩,⟨⟨(some 3),none,(.iM (.tmp 18))⟩,[]⟩]) (.seq (.ops [19,20] [⟨⟨(some 19),none,(.mv (.tmp 3))⟩,[]⟩,⟨⟨(some 20),none,(.bin .lss 3 (.tmp 19) (.const (.int .i64 0)))⟩,[]⟩]) (.cond (.tmp 20) (.ops [21] [⟨⟨(some 21),none,(.iface 9 (.const (.string ⟨⟨[108,101,110,32,111,117,116,32,111,102,32,114,97,110,103,101]⟩⟩)))⟩,[]⟩,⟨⟨none,none,(.panic (.tmp 21))⟩,[]⟩]) .skip))))) (.ops [22,11] [⟨⟨(some 22),none,(.bin .add 3 (.tmp 11) (.const (.int .i64 1)))⟩,[]⟩,⟨⟨(some 11),none,(.mv (.tmp 22))⟩,[]⟩]))))))) (.seq (.ops [23,24,6] [⟨⟨(some 23),none,(.mv (.tmp 3))⟩,[]⟩,⟨⟨(some 24),none,(.call (.func 66) [(.const (.slice none 0 0)),(.tmp 23)])⟩,[]⟩,⟨⟨(some 6),none,(.iM (.tmp 24))⟩,[]⟩]) (.seq (.seq (.ops [25,26,27] [⟨⟨(some 25),none,(.mv (.tmp 0))⟩,[]⟩,⟨⟨(some 26),none,(.oC (.tmp 25))⟩,[]⟩,⟨⟨(some 27),none,(.mv (.const (.int .i64 0)))⟩,[]⟩]) (.block 2 (.loop (.seq (.ops [28] [⟨⟨(some 28),none,(.bin .lss 3 (.tmp 27) (.tmp 26))⟩,[]⟩]) (.seq (.cond (.tmp 28) .skip (.exit 2)) (.seq (.block 3 (.seq (.ops [29,30,8] [⟨⟨(some 29),none,(.kV 1 (.tmp 25) (.tmp 27))⟩,[]⟩,⟨⟨(some 30),none,(.fT (.tmp 29))⟩,[]⟩,⟨⟨(some 8),none,(.iM (.tmp 30))⟩,[]⟩]) (.ops [31,32,33,6] [⟨⟨(some 31),none,(.mv (.tmp 6))⟩,[]⟩,⟨⟨(some 32),none,(.mv (.tmp 8))⟩,[]⟩,⟨⟨(some 33),none,(.append 59 3 40 (.tmp 31) (.tmp 32))⟩,[]⟩,⟨⟨(some 6),none,(.iM (.tmp 33))⟩,[]⟩]))) (.ops [34,27] [⟨⟨(some 34),none,(.bin .add 3 (.tmp 27) (.const (.int .i64 1)))⟩,[]⟩,⟨⟨(some 27),none,(.mv (.tmp 34))⟩,[]⟩]))))))) (.seq (.ops [35,2] [⟨⟨(some 35),none,(.mv (.tmp 6))⟩,[]⟩,⟨⟨(some 2),none,(.iM (.tmp 35))⟩,[]⟩]) .ret))))))⟩
theorem adQ:kz Tryz.prog 35=some SI:=by kernel_rfl
noncomputable def SK:=rR Tryz.prog 13
theorem adR:kz Tryz.prog 13=some SK:=by kernel_rfl
abbrev GQ:List Value:=[.int .i64 0,.int .i64 0,.slice none 0 0]
theorem adS:bY Tryz.prog 66 [.slice none 0 0,.int .i64 0] [] (.slice none 0 0):=by
 refine aG LQ SH λB w0=>?_;refine go ?_;refine(fq rfl rfl (Kg rfl)).h ?_;refine go ?_;exact aa () (hv:=rfl) (hp:=trivial)
theorem adT{m:Nat}(h0:0<m)(hm:m<=4096):aZ Tryz.prog (.func 66) [.slice none 0 0,.int .i64 (m:Int)] [] [] [] (λb:Nat=>.slice (some ⟨b,0,some 3⟩) 0 m) (λb=>[pt b (.cells (zeros GQ m))]) (λ_=>[]) (λ_=>True):=by
 refine aG LQ SH λB w0=>?_;refine go ?_;refine(fq rfl rfl (Kg rfl)).h ?_;refine go ?_;refine az rfl (λh1=>?_) (λh1=>?_)
 rotate_left
 ·omega
 refine go ?_;refine(fq rfl rfl (Kg rfl)).h ?_;refine(fq rfl rfl (ZT rfl rfl)).h ?_;refine go ?_;refine ZQ m h0 ⟨by omega,by omega,by omega⟩ (next:=λb=>?_) (hx:=by show Value.int .i64 _=Value.int .i64 _;congr 1);refine go ?_;refine(fq rfl rfl (ZR (k:=2) rfl rfl)).h ?_;refine go ?_;exact aa b (hv:=rfl) (hp:=trivial)
theorem adU{b:Nat}{v1 v2:Value}{jV jO:List Clue}(hl:jV.length+jO.length<=4096):
 aZ Tryz.prog (.func 35) [.slice (some ⟨b,0,some 0⟩) 2 2] [] [] [gH b 0 [v1,v2],ah bU v1 jV,ah bU v2 jO] (λv:Value=>v) (λ_=>[]) (λv=>[ah bU v (jV++jO)]) (λ_=>True):=by
 have hgn:bU.n=3:=rfl;refine aG SI adQ λB w0=>?_;refine yQ bU v1 (xs:=jV) (λoZ e1=>?_);refine yQ bU v2 (xs:=jO) (λsK e2=>?_);have hx1:oZ.length=jV.length:=by rw[<- e1,di]
 have hx2:sK.length=jO.length:=by rw[<- e2,di]
 refine DK (ax:=oZ) (v:=v1) (E:=bU) ?_;refine DK (ax:=sK) (v:=v2) (E:=bU) ?_;refine aT (E:=bU) (v:=v1) (xs:=jV) (by simp) λa1 c1 f1=>?_;subst f1;refine aT (E:=bU) (v:=v2) (xs:=jO) (by simp) λa2 c2 f2=>?_;subst f2;refine go ?_;refine jT ?_;refine go ?_;refine jT ?_;refine go ?_;refine jT ?_;refine go ?_;by_cases hz:jV.length+jO.length=0
 ·have z1:jV.length=0:=by omega
  have z2:jO.length=0:=by omega
  have n1:jV=[]:=jl.1 z1;have n2:jO=[]:=jl.1 z2;rw[z1,z2];refine ak adS (next:=λ_ _=>?_);refine go ?_;refine jT ?_;refine go ?_;refine(fq rfl rfl (Qw rfl rfl)).h ?_;refine go ?_;refine jT ?_;refine go ?_;refine(fq rfl rfl (Qw rfl rfl)).h ?_;refine go ?_;refine jT ?_;refine go ?_;refine eO (ah bU (.slice none 0 0) (jV++jO)) (λw hw=>.inl ⟨by rw[n1,n2];rfl,none,0,rfl,trivial⟩) ?_;exact aa (.slice none 0 0) (hv:=rfl) (hp:=trivial)
 ·rw[show(0:Int)+(jV.length:Int)+(jO.length:Int)=((jV.length+jO.length:Nat):Int)by omega];refine ak (adT (m:=jV.length+jO.length) (by omega) hl) (next:=λbg _=>?_);have hzl:=zeros_length GQ (jV.length+jO.length);rw[show GQ.length=3 from rfl]at hzl;generalize hzz:zeros GQ (jV.length+jO.length)=zs at hzl⊢;refine go ?_;refine jT ?_;refine go ?_;rw[show zs=[]++zs from rfl];refine Qv (m:=0) (f:=some 3) (cap:=jV.length+jO.length) (b:=bg) bU oZ [] zs rfl (by rw[hgn];omega) (by omega) ⟨by omega,by omega,by omega⟩ ?_;rw[dH];refine go ?_;refine jT ?_;refine go ?_;have hd1:(zs.drop (oZ.length*bU.n)).length=jO.length*3:=by rw[lX,hzl,hgn,hx1];omega
  refine Qv (m:=0+oZ.length) (f:=some 3) (cap:=jV.length+jO.length) (b:=bg) bU sK (bP bU oZ) (zs.drop (oZ.length*bU.n)) (by rw[uV,eH]) (by rw[hd1,hgn];omega) (by omega) ⟨by omega,by omega,by omega⟩ ?_;rw[show(zs.drop (oZ.length*bU.n)).drop (sK.length*bU.n)=[]from zx (by rw[hgn]at hd1⊢;omega),gD,show bP bU oZ++bP bU sK=bP bU (oZ++sK)by unfold bP;rw[List.flatMap_append]];rw[show 0+oZ.length+sK.length=jV.length+jO.length by omega];refine qU bU (ax:=oZ++sK) (b:=bg) (f:=3) (m:=jV.length+jO.length) (by rw[gB];omega) (.inr rfl) ?_;refine DL (E:=bU) (v:=.slice (some ⟨bg,0,some 3⟩) (jV.length+jO.length) (jV.length+jO.length)) (ax:=oZ++sK) ?_ (λw h p hp f hf=>?_)
  rotate_left
  ·rcases dZ.1 hp with hp|hp
   ·exact h (oO bU oZ) (by simp) p hp f hf
   ·exact h (oO bU sK) (by simp) p hp f hf
  rw[eX,e1,e2];refine go ?_;refine jT ?_;refine go ?_;exact aa (.slice (some ⟨bg,0,some 3⟩) (jV.length+jO.length) (jV.length+jO.length)) (hv:=rfl) (hp:=trivial)
def LU(p:List Clue)(n:Int):List Clue:=p.take n.toNat++p.drop (n.toNat+1)
structure SL where
 v:Value
 e:Int
end Go.Proofs.YtoohgkkmdnbnfaaGreatDoor
namespace Go.Proofs.YtoohgkkmdnbnfaaGreatDoor
open Go.Ideal Kd Canon
theorem LV{v:Value}{xs:List (List Int)}(hl:xs.length<9223372036854775808)(hll:∀l∈xs,l.length<9223372036854775808):aZ Tryz.prog (.func 64) [v] [] [] [ah (aj ae) v xs] (λn:Int=>.int .i64 n) (λ_=>[]) (λ_=>[]) (λn=>0<=n/\n<=2001):=by
 refine aG _ (aM 64) λB w0=>?_;refine aT (E:=aj ae) (v:=v) (xs:=xs) (by simp) λa1 c1 e1=>?_;subst e1;refine go ?_;refine aX (λx:Nat×Int=>xs.length - x.1) (λx=>[(4,.int .i64 (x.1:Int)),(3,.int .i64 x.2)]) (λ_=>[]) (λ_=>[]) (λx=>x.1<=xs.length/\0<=x.2/\x.2<=4003) (0,0) ⟨bX _,by decide,by decide⟩ (body:=?_);rintro⟨i,n⟩ ⟨hi,h0,h1⟩;dsimp only at hi h0 h1⊢;refine go ?_;first|with_reducible refine aL (λh2=>?_) (λh2=>?_)|with_reducible refine aK (λh2=>?_) (λh2=>?_)|with_reducible refine aI (λh2=>?_) (λh2=>?_)
 ·refine go ?_;refine(fq rfl rfl (FO rfl rfl)).h ?_;refine go ?_;exact aa (min n 2001) (hv:=rfl) (hp:=by omega)
 refine go ?_;refine az rfl (λh3=>?_) (λh3=>?_)
 rotate_left
 ·refine go ?_;refine(fq rfl rfl (FO rfl rfl)).h ?_;refine go ?_;exact aa (min n 2001) (hv:=rfl) (hp:=by omega)
 refine go ?_;refine(fq rfl rfl (FO rfl rfl)).h ?_;refine go ?_;refine aY (aj ae) (xs:=xs) (next:=λ_ _ x (vx:Value) hx=>?_);refine go ?_;refine(fq rfl rfl (FO rfl rfl)).h ?_;refine go ?_;exact aO (i+1,min n 2001+1+min (x.length:Int) 2001) (by show xs.length - (i+1)<xs.length - i;omega) ⟨by dsimp only;omega,by dsimp only;omega,by dsimp only;omega⟩
structure LW(d:bq):Prop where
 holes:d.holes.length<=40
 dU:d.symbols.length<=20
 regs:d.regions.length<=8
 ja:d.aF.length<=8
 ko:d.rules.length<=20
theorem SN{d:bq}{vh vs vr vc vu:Value}(hr:∀r∈d.regions,r.lists.length<9223372036854775808/\∀l∈r.lists,l.length<9223372036854775808)(hn:∀r∈d.rules,r.names.length<9223372036854775808/\r.others.length<9223372036854775808):
 aZ Tryz.prog (.func 65) [.agg ⟨fO d vh vs vr vc vu⟩] [] [] (j6 d vh vs vr vc vu) (λb:Bool=>.bool b) (λ_=>[]) (λ_=>[]) (λb=>b=true->LW d):=by
 refine aG _ (aM 65) λB w0=>?_;dsimp only[j6];refine aT (E:=dW) (v:=vr) (xs:=d.regions) (by simp) λar cr er=>?_;subst er;refine aT (E:=aW) (v:=vu) (xs:=d.rules) (by simp) λau cu eu=>?_;subst eu;refine go ?_;intro b1;refine bB (fG (b:=b1)) (h:=?_);refine go ?_;first|with_reducible refine aL (λh1=>?_) (λh1=>?_)|with_reducible refine aK (λh1=>?_) (λh1=>?_)|with_reducible refine aI (λh1=>?_) (λh1=>?_)
 rotate_left
 ·refine go ?_;exact aa false (hv:=rfl) (hp:=λh=>by cases h)
 refine go ?_;first|with_reducible refine aL (λh2=>?_) (λh2=>?_)|with_reducible refine aK (λh2=>?_) (λh2=>?_)|with_reducible refine aI (λh2=>?_) (λh2=>?_)
 rotate_left
 ·refine go ?_;exact aa false (hv:=rfl) (hp:=λh=>by cases h)
 refine go ?_;first|with_reducible refine aL (λh3=>?_) (λh3=>?_)|with_reducible refine aK (λh3=>?_) (λh3=>?_)|with_reducible refine aI (λh3=>?_) (λh3=>?_)
 rotate_left
 ·refine go ?_;exact aa false (hv:=rfl) (hp:=λh=>by cases h)
 refine go ?_;first|with_reducible refine aL (λh4=>?_) (λh4=>?_)|with_reducible refine aK (λh4=>?_) (λh4=>?_)|with_reducible refine aI (λh4=>?_) (λh4=>?_)
 rotate_left
 ·refine go ?_;exact aa false (hv:=rfl) (hp:=λh=>by cases h)
 refine go ?_;refine az rfl (λh5=>?_) (λh5=>?_)
 ·refine go ?_;exact aa false (hv:=rfl) (hp:=λh=>by cases h)
 have hD:LW d:=⟨by omega,by omega,by omega,by omega,by omega⟩
 refine go ?_;refine aX (λj:Nat=>d.regions.length - j) (λj=>[(3,.int .i64 (j:Int))]) (λ_=>[]) (λ_=>[]) (λj=>j<=d.regions.length) 0 (bX _) (body:=?_);intro j hj;refine go ?_;refine az rfl (λa1=>?_) (λa1=>?_)
 ·have hx:d.regions[j]? =some (d.regions[j]'(by omega)):=cK _;generalize d.regions[j]'(by omega)=x at hx;obtain⟨hx1,hx2⟩:=hr x (bJ hx);refine go ?_;refine aY dW (xs:=d.regions) (next:=λ_ _ x1 (vl1:Value) hx1=>?_);cases hx.symm.trans hx1;refine go ?_;refine az rfl (λa2=>?_) (λa2=>?_)
  ·refine go ?_;exact aa false (hv:=rfl) (hp:=λh=>by cases h)
  refine go ?_;refine aX (λi:Nat=>x.lists.length - i) (λi=>[(4,.int .i64 (i:Int))]) (λ_=>[]) (λ_=>[]) (λi=>i<=x.lists.length) 0 (bX _) (body:=?_);intro i hi;refine go ?_;refine aY dW (xs:=d.regions) (next:=λ_ _ x2 (vl2:Value) hx2=>?_);cases hx.symm.trans hx2;refine go ?_;refine az rfl (λa3=>?_) (λa3=>?_)
  ·refine go ?_;refine aY dW (xs:=d.regions) (next:=λ_ _ x3 (vl3:Value) hx3=>?_);cases hx.symm.trans hx3;refine go ?_;refine aY (aj ae) (xs:=x.lists) (next:=λ_ _ l (vl4:Value) hl=>?_);refine go ?_;refine az rfl (λa4=>?_) (λa4=>?_)
   ·refine go ?_;exact aa false (hv:=rfl) (hp:=λh=>by cases h)
   refine go ?_;exact aO (i+1) (by show x.lists.length - (i+1)<x.lists.length - i;omega) (by show i+1<=_;omega)
  refine go ?_;exact aO (j+1) (by show d.regions.length - (j+1)<d.regions.length - j;omega) (by show j+1<=_;omega)
 refine go ?_;refine aX (λj:Nat=>d.rules.length - j) (λj=>[(5,.int .i64 (j:Int))]) (λ_=>[]) (λ_=>[]) (λj=>j<=d.rules.length) 0 (bX _) (body:=?_);intro j hj;refine go ?_;refine az rfl (λa1=>?_) (λa1=>?_)
 ·have hx:d.rules[j]? =some (d.rules[j]'(by omega)):=cK _;generalize d.rules[j]'(by omega)=x at hx;obtain⟨hx1,hx2⟩:=hn x (bJ hx);refine go ?_;refine aY aW (xs:=d.rules) (next:=λ_ _ x1 (w:Value×Value) hx1=>?_);cases hx.symm.trans hx1;refine go ?_;first|with_reducible refine aL (λa2=>?_) (λa2=>?_)|with_reducible refine aK (λa2=>?_) (λa2=>?_)|with_reducible refine aI (λa2=>?_) (λa2=>?_)
  rotate_left
  ·refine go ?_;exact aa false (hv:=rfl) (hp:=λh=>by cases h)
  refine go ?_;refine aY aW (xs:=d.rules) (next:=λ_ _ x2 (w2:Value×Value) hx2=>?_);cases hx.symm.trans hx2;refine go ?_;refine az rfl (λa3=>?_) (λa3=>?_)
  ·refine go ?_;exact aa false (hv:=rfl) (hp:=λh=>by cases h)
  refine go ?_;exact aO (j+1) (by show d.rules.length - (j+1)<d.rules.length - j;omega) (by show j+1<=_;omega)
 refine go ?_;exact aa true (hv:=rfl) (hp:=λ_=>hD)
structure LX(k:eT):Prop where
 d:LW k.decl
 cells:k.grid.cells.length<=256
 GN:k.grid.holes.length<=300
theorem nZ.ofE{k:eT}(hB:Bb k)(hF:LX k):nZ k:=by
 have f1:=hF.cells;have f2:=hF.GN;have f5:=hF.d.dU;have f6:=hF.d.regs;have f7:=hF.d.ja;have f8:=hF.d.ko;have f9:=hF.d.holes;exact⟨⟨⟨by omega,by omega,by omega,by omega,hB.qc,hB.holes,hB.qd⟩,hB.dw,hB.dh,by omega⟩,⟨hB.gw,hB.gh,by omega,by omega⟩,hB.bR,hB.lists⟩
theorem adW{k:eT}{vh vs vr vc vu gh gc vn vl:Value}(hB:Bb k):aZ Tryz.prog (.func 34) [.agg ⟨mD k vh vs vr vc vu gh gc vn vl⟩] [] [] (lH k vh vs vr vc vu gh gc vn vl []) (λb:Bool=>.bool b) (λ_=>[]) (λ_=>[]) (λb=>b=true->LX k):=by
 obtain⟨n1,n2⟩:=hB.bR;obtain⟨l1,l2⟩:=hB.lists;refine aG _ (aM 34) λB w0=>?_;dsimp only[lH];refine aT (E:=aj (aj ae)) (v:=vl) (xs:=k.lists) (by simp) λal cl el=>?_;subst el;refine go ?_;intro b1;refine go ?_;refine aX (λx:Nat×Int=>k.lists.length - x.1) (λx=>[(4,.int .i64 (x.1:Int)),(3,.int .i64 x.2)]) (λ_=>[]) (λ_=>[]) (λx=>x.1<=k.lists.length/\0<=x.2/\x.2<=4001) (0,0) ⟨bX _,by decide,by decide⟩ (body:=?_);rintro⟨i,n⟩ ⟨hi,h0,h1⟩;dsimp only at hi h0 h1⊢;refine go ?_;first|with_reducible refine aL (λh2=>?_) (λh2=>?_)|with_reducible refine aK (λh2=>?_) (λh2=>?_)|with_reducible refine aI (λh2=>?_) (λh2=>?_)
 ·refine go ?_;first|with_reducible refine aL (λt1=>?_) (λt1=>?_)|with_reducible refine aK (λt1=>?_) (λt1=>?_)|with_reducible refine aI (λt1=>?_) (λt1=>?_)
  ·refine go ?_;exact aa false (hv:=rfl) (hp:=λh=>by cases h)
  refine go ?_;refine ak (LV (xs:=k.bR) n1 n2) (next:=λm hm=>?_);refine go ?_;first|with_reducible refine aL (λt2=>?_) (λt2=>?_)|with_reducible refine aK (λt2=>?_) (λt2=>?_)|with_reducible refine aI (λt2=>?_) (λt2=>?_)
  ·refine go ?_;exact aa false (hv:=rfl) (hp:=λh=>by cases h)
  refine go ?_;first|with_reducible refine aL (λt3=>?_) (λt3=>?_)|with_reducible refine aK (λt3=>?_) (λt3=>?_)|with_reducible refine aI (λt3=>?_) (λt3=>?_)
  ·refine go ?_;exact aa false (hv:=rfl) (hp:=λh=>by cases h)
  refine go ?_;first|with_reducible refine aL (λt4=>?_) (λt4=>?_)|with_reducible refine aK (λt4=>?_) (λt4=>?_)|with_reducible refine aI (λt4=>?_) (λt4=>?_)
  ·refine go ?_;exact aa false (hv:=rfl) (hp:=λh=>by cases h)
  refine go ?_;refine ak (SN (d:=k.decl) (vh:=vh) (vs:=vs) (vr:=vr) (vc:=vc) (vu:=vu) hB.qd hB.qc) (next:=λb hb=>?_);refine go ?_;exact aa b (hv:=rfl) (hp:=λh=>⟨hb h,by omega,by omega⟩)
 refine go ?_;refine az rfl (λh3=>?_) (λh3=>?_)
 rotate_left
 ·refine go ?_;first|with_reducible refine aL (λt1=>?_) (λt1=>?_)|with_reducible refine aK (λt1=>?_) (λt1=>?_)|with_reducible refine aI (λt1=>?_) (λt1=>?_)
  ·refine go ?_;exact aa false (hv:=rfl) (hp:=λh=>by cases h)
  refine go ?_;refine ak (LV (xs:=k.bR) n1 n2) (next:=λm hm=>?_);refine go ?_;first|with_reducible refine aL (λt2=>?_) (λt2=>?_)|with_reducible refine aK (λt2=>?_) (λt2=>?_)|with_reducible refine aI (λt2=>?_) (λt2=>?_)
  ·refine go ?_;exact aa false (hv:=rfl) (hp:=λh=>by cases h)
  refine go ?_;first|with_reducible refine aL (λt3=>?_) (λt3=>?_)|with_reducible refine aK (λt3=>?_) (λt3=>?_)|with_reducible refine aI (λt3=>?_) (λt3=>?_)
  ·refine go ?_;exact aa false (hv:=rfl) (hp:=λh=>by cases h)
  refine go ?_;first|with_reducible refine aL (λt4=>?_) (λt4=>?_)|with_reducible refine aK (λt4=>?_) (λt4=>?_)|with_reducible refine aI (λt4=>?_) (λt4=>?_)
  ·refine go ?_;exact aa false (hv:=rfl) (hp:=λh=>by cases h)
  refine go ?_;refine ak (SN (d:=k.decl) (vh:=vh) (vs:=vs) (vr:=vr) (vc:=vc) (vu:=vu) hB.qd hB.qc) (next:=λb hb=>?_);refine go ?_;exact aa b (hv:=rfl) (hp:=λh=>⟨hb h,by omega,by omega⟩)
 refine go ?_;refine aY (aj (aj ae)) (xs:=k.lists) (next:=λ_ _ x (vx:Value) hx=>?_);obtain⟨x1,x2⟩:=l2 x (bJ hx);refine go ?_;refine ak (LV (xs:=x) x1 x2) (next:=λm hm=>?_);refine go ?_;exact aO (i+1,n+m) (by show k.lists.length - (i+1)<k.lists.length - i;omega) ⟨by dsimp only;omega,by dsimp only;omega,by dsimp only;omega⟩
theorem adX{k:eT}{p:List Clue}{vh vs vr vc vu gh gc vn vl vp:Value}(hB:Bb k)(hp:p.length<9223372036854775808):
 aZ Tryz.prog (.func 11) [.agg ⟨mD k vh vs vr vc vu gh gc vn vl⟩,.agg ⟨[vp]⟩] [] [] (ah bU vp p::lH k vh vs vr vc vu gh gc vn vl []) (λb:Bool=>.bool b) (λ_=>[]) (λ_=>[]) (λb=>b=true->LX k/\k.grid.cells.length<=16/\p.length<=60/\∀g∈p,g.values.length<=20):=by
 refine aG _ (aM 11) λB w0=>?_;dsimp only[lH];refine go ?_;intro b2 b3;refine go ?_;refine ak (adW (k:=k) (vh:=vh) (vs:=vs) (vr:=vr) (vc:=vc) (vu:=vu) (gh:=gh) (gc:=gc) (vn:=vn) (vl:=vl) hB) (next:=λb hb=>?_);cases b with
 |false=>
  refine go ?_;exact aa false (hv:=rfl) (hp:=λh=>by cases h)
 |true=>
 have hk:=hb rfl;refine go ?_;first|with_reducible refine aL (λh1=>?_) (λh1=>?_)|with_reducible refine aK (λh1=>?_) (λh1=>?_)|with_reducible refine aI (λh1=>?_) (λh1=>?_)
 ·refine go ?_;exact aa false (hv:=rfl) (hp:=λh=>by cases h)
 refine go ?_;first|with_reducible refine aL (λh2=>?_) (λh2=>?_)|with_reducible refine aK (λh2=>?_) (λh2=>?_)|with_reducible refine aI (λh2=>?_) (λh2=>?_)
 ·refine go ?_;exact aa false (hv:=rfl) (hp:=λh=>by cases h)
 refine go ?_;refine ak (SE (xs:=p) (va:=vp) hp) (next:=λb hb=>?_);refine go ?_;exact aa b (hv:=rfl) (hp:=λh=>⟨hk,by omega,hb h⟩)
