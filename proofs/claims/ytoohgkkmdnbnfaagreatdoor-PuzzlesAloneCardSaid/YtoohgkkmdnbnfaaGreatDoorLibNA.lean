/-
  Puzzles checked.
-/
import Derived.Test.YtoohgkkmdnbnfaaGreatDoorLibKA
import Derived.Test.YtoohgkkmdnbnfaaGreatDoorLibMA
import Derived.Test.YtoohgkkmdnbnfaaGreatDoorLibLA
set_option linter.all false
set_option maxRecDepth 10000
set_option maxHeartbeats 4000000
namespace Go.Proofs.YtoohgkkmdnbnfaaGreatDoor
open Go.Ideal Kd Canon
structure Au(p:List Clue):Prop where
 len:p.length<9223372036854775808
 vals:∀g∈p,g.values.length<9223372036854775808
theorem agc{k:bS}{g:Clue}{vh vs vr vc vu gh gc vn vl vv:Value}(hS:qg k)(hF:MG k)(hv:g.values.length<9223372036854775808):
 bi Tryz.prog (.func 37) [.agg ⟨mG k vh vs vr vc vu gh gc vn vl⟩,IE g vv] [] [] (ah aa vv g.values::nI k vh vs vr vc vu gh gc vn vl []) (λb:Bool=>.bool b) (λ_=>[]) (λ_=>[]) (λb=>b=true↔yB k g):=by
 have hcl:=hS.d.s.jv;have hsl:=hS.d.s.dP;refine aK _ (aP 37) λB w0=>?_;refine aS (E:=bM) (v:=vc) (xs:=k.decl.aJ) (by simp) λac cc ec=>?_;subst ec;refine aS (E:=fF) (v:=vs) (xs:=k.decl.symbols) (by simp) λlV cs1 es1=>?_;subst es1;refine aS (E:=aj (aj aa)) (v:=vl) (xs:=k.lists) (by simp) λal cl el=>?_;subst el;refine aS (E:=aa) (v:=vv) (xs:=g.values) (by simp) λav cv Ar=>?_;subst Ar;refine go ?_;intro b2 b3;refine bD (eO (b:=b2)) (h:=?_);refine bD (eO (b:=b3)) (h:=?_);refine go ?_;first|with_reducible refine aN (λh1=>?_) (λh1=>?_)|with_reducible refine aM (λh1=>?_) (λh1=>?_)|with_reducible refine aL (λh1=>?_) (λh1=>?_)
 rotate_left
 ·refine go ?_;exact ae false (hv:=rfl) (hp:=⟨(λh=>by cases h),λ⟨c,l,h,_⟩=>by omega⟩)
 refine go ?_;refine aA rfl (λh2=>?_) (λh2=>?_)
 ·refine go ?_;refine ae false (hv:=rfl) (hp:=⟨(λh=>by cases h),λ⟨c,l,_,h,_⟩=>?_⟩);have:=(bO.1 h).1;omega
 obtain⟨ci,hci⟩:=sG (show 0<=g.aG by omega);have hg0:0<=g.aG:=by omega
 have PZ:ci<k.decl.aJ.length:=by omega
 have htn:g.aG.toNat=ci:=by omega
 refine go ?_;rw[hci];refine bz bM (xs:=k.decl.aJ) (next:=λ_ _ c (_:Unit) hc=>?_);obtain⟨hf0,hf1⟩:=hF c (bG hc);refine go ?_;intro b5;refine go ?_;first|with_reducible refine aN (λh3=>?_) (λh3=>?_)|with_reducible refine aM (λh3=>?_) (λh3=>?_)|with_reducible refine aL (λh3=>?_) (λh3=>?_)
 rotate_left
 ·refine go ?_;exact ae false (hv:=rfl) (hp:=⟨(λh=>by cases h),λ⟨c,l,_,_,_,h,_⟩=>by omega⟩)
 refine go ?_;obtain⟨fi,hfi⟩:=sG hf0;have U6:c.family.toNat=fi:=by omega
 rw[hfi];refine bz (aj (aj aa)) (xs:=k.lists) (next:=λ_ _ ls (vls:Value) hls=>?_);refine go ?_;refine aA rfl (λh4=>?_) (λh4=>?_)
 ·refine go ?_;refine ae false (hv:=rfl) (hp:=⟨(λh=>by cases h),λ⟨c',l',_,q1,q2,q3,q4,_⟩=>?_⟩);rw[htn,hc]at q1;cases q1;rw[U6,hls]at q2;cases q2;omega
 have hR:∀b:Bool,(b=true↔((c.type=1/\g.values.length=1/\∀x∈g.values,0<=x/\x<=(k.decl.symbols.length:Int) - 1)\/(c.type=2/\g.values.length=1/\∀x∈g.values,c.lo<=x/\x<=c.hi)\/
  (c.type≠1/\c.type≠2/\g.values.length<=8/\∀x∈g.values,1<=x/\x<=256)))->(b=true↔yB k g):=λb hb=>by
  rw[hb];refine⟨λh=>⟨c,ls,hg0,by rw[htn];exact hc,by rw[U6];exact hls,by omega,by omega,h⟩,λ⟨c',l',_,q1,_,_,_,h⟩=>?_⟩;rw[htn,hc]at q1;cases q1;exact h
 refine go ?_;refine aA rfl (λh5=>?_) (λh5=>?_)
 ·refine go ?_;first|with_reducible refine aN (λh6=>?_) (λh6=>?_)|with_reducible refine aM (λh6=>?_) (λh6=>?_)|with_reducible refine aL (λh6=>?_) (λh6=>?_)
  ·refine go ?_;exact ae false (hv:=rfl) (hp:=hR _ ⟨(λh=>by cases h),λh=>by exfalso;omega⟩)
  refine go ?_;refine ax (MQ (xs:=g.values) (lo:=0) (hi:=(k.decl.symbols.length:Int) - 1) hv) (next:=λ_ _=>?_);refine go ?_;refine ae (wI g.values 0 ((k.decl.symbols.length:Int) - 1)) (hv:=rfl) (hp:=hR _ ?_);unfold wI;rw[y8];exact⟨λh=>.inl ⟨h5,by omega,h⟩,λh=>by rcases h with h|h|h;exact h.2.2;exact absurd h5 (by omega);exact absurd h5 h.1⟩
 refine go ?_;refine aA rfl (λh6=>?_) (λh6=>?_)
 ·refine go ?_;first|with_reducible refine aN (λh7=>?_) (λh7=>?_)|with_reducible refine aM (λh7=>?_) (λh7=>?_)|with_reducible refine aL (λh7=>?_) (λh7=>?_)
  ·refine go ?_;exact ae false (hv:=rfl) (hp:=hR _ ⟨(λh=>by cases h),λh=>by exfalso;omega⟩)
  refine go ?_;refine ax (MQ (xs:=g.values) (lo:=c.lo) (hi:=c.hi) hv) (next:=λ_ _=>?_);refine go ?_;refine ae (wI g.values c.lo c.hi) (hv:=rfl) (hp:=hR _ ?_);unfold wI;rw[y8];exact⟨λh=>.inr (.inl ⟨h6,by omega,h⟩),λh=>by rcases h with h|h|h;exact absurd h.1 h5;exact h.2.2;exact absurd h6 h.2.1⟩
 refine go ?_;first|with_reducible refine aN (λh7=>?_) (λh7=>?_)|with_reducible refine aM (λh7=>?_) (λh7=>?_)|with_reducible refine aL (λh7=>?_) (λh7=>?_)
 ·refine go ?_;exact ae false (hv:=rfl) (hp:=hR _ ⟨(λh=>by cases h),λh=>by exfalso;omega⟩)
 refine go ?_;refine ax (MQ (xs:=g.values) (lo:=1) (hi:=256) hv) (next:=λ_ _=>?_);refine go ?_;refine ae (wI g.values 1 256) (hv:=rfl) (hp:=hR _ ?_);unfold wI;rw[y8];exact⟨λh=>.inr (.inr ⟨h5,h6,by omega,h⟩),λh=>by rcases h with h|h|h;exact absurd h.1 h5;exact absurd h.1 h6;exact h.2.2.2⟩
end Go.Proofs.YtoohgkkmdnbnfaaGreatDoor
namespace Go.Proofs.YtoohgkkmdnbnfaaGreatDoor
open Go.Ideal Kd Canon
theorem fT.decl{k:bS}(h:fT k):k.decl=Kd.bF k.decl:=congrArg bS.decl h.e
theorem fT.lists{k:bS}(h:fT k):k.lists=kV k.decl:=by
 have:=congrArg bS.lists h.e;have h2:(kg (Kd.bF k.decl)).lists=kV (Kd.bF k.decl):=rfl;rw[h2,<- h.decl]at this;exact this
theorem fT.grid{k:bS}(h:fT k):k.grid=aO k.decl:=by
 have:=congrArg bS.grid h.e;have h2:(kg (Kd.bF k.decl)).grid=aO (Kd.bF k.decl):=rfl;rw[h2,<- h.decl]at this;exact this
theorem fT.bn{k:bS}(h:fT k):k.bn=bI (aO k.decl):=by
 have:=congrArg bS.bn h.e;have h2:(kg (Kd.bF k.decl)).bn=bI (aO (Kd.bF k.decl)):=rfl;rw[h2,<- h.decl]at this;exact this
theorem fT.typ{k:bS}(h:fT k):FV k.decl:=by
 have:=h.b.typ;rw[<- h.decl]at this;exact this
theorem fT.qa{k:bS}(h:fT k):MG k:=by
 intro c hc;rw[h.decl]at hc;obtain⟨q,hq,rfl⟩:=fo.1 (show c∈k.decl.aJ.map (lm (bW k.decl))from hc);have h1:=yu (h.b.rs.Mt q hq);have h2:(bW k.decl).length=8+k.decl.regions.length:=by
  unfold bW;rw[fA,bR];rfl
 have h3:k.lists.length=8+k.decl.regions.length:=by
  rw[h.lists];unfold kV;rw[fA,bR,bR,Da]
 show 0<=((dS q.on (bW k.decl):Nat):Int)/\((dS q.on (bW k.decl):Nat):Int)<_;omega
theorem age{k:bS}{p:List Clue}{vh vs vr vc vu gh gc vn vl vp:Value}(hS:qg k)(hP:Au p):
 bi Tryz.prog (.func 15) [.agg ⟨mG k vh vs vr vc vu gh gc vn vl⟩,.agg ⟨[vp]⟩] [] [] (ah eF vp p::nI k vh vs vr vc vu gh gc vn vl []) (λe:Int=>.int .i64 e) (λ_=>[]) (λ_=>[])
  (λe=>(¬fT k->e=180)/\(fT k->¬iK k p->e=190)/\(fT k->iK k p->e=0)):=by
 refine aK _ (aP 15) λB w0=>?_;refine aS (E:=eF) (v:=vp) (xs:=p) (by simp) λNK cp ep=>?_;subst ep;refine go ?_;intro b2 b3;refine bD (eO (b:=b2)) (h:=?_);refine bD (eO (b:=b3)) (h:=?_);refine go ?_;refine ax (af7 (k:=k) (vh:=vh) (vs:=vs) (vr:=vr) (vc:=vc) (vu:=vu) (gh:=gh) (gc:=gc) (vn:=vn) (vl:=vl) hS) (next:=λb hb=>?_);cases b with
 |false=>
  have hno:¬fT k:=λh=>by have:=hb.2 h;cases this
  dsimp only[cond];refine go ?_;exact ae 180 (hv:=rfl) (hp:=⟨λ_=>rfl,λh=>absurd h hno,λh=>absurd h hno⟩)
 |true=>
 have hK:=hb.1 rfl;clear hb;have hend:¬iK k p->(¬fT k->(190:Int)=180)/\(fT k->¬iK k p->(190:Int)=190)/\(fT k->iK k p->(190:Int)=0):=λhn=>⟨λh=>absurd hK h,λ_ _=>rfl,λ_ h=>absurd h hn⟩
 dsimp only[cond];refine go ?_;refine aA rfl (λh1=>?_) (λh1=>?_)
 ·refine go ?_;exact ae 190 (hv:=rfl) (hp:=hend λh=>by have:=h.len;omega)
 refine go ?_;refine aZ (λj:Nat=>p.length - j) (λj=>[(17,.int .i64 (j:Int))]) (λ_=>[]) (λ_=>[]) (λj=>j<=p.length/\(∀g∈p.take j,yB k g)/\∀(i:Nat) a b,i+1<j->p[i]? =some a->p[i+1]? =some b->gq a b<0) 0 ⟨cz _,by simp,λi a b h=>by omega⟩ (body:=?_);rintro j ⟨hj,hall,hs⟩;refine go ?_;refine aA rfl (λh2=>?_) (λh2=>?_)
 ·refine go ?_;refine bz eF (xs:=p) (next:=λ_ _ g (vg:Value) hg=>?_);have hgm:=bG hg;have htk:=bY hg;refine go ?_;intro b6;refine go ?_;refine ax (agc (k:=k) (g:=g) (vh:=vh) (vs:=vs) (vr:=vr) (vc:=vc) (vu:=vu) (gh:=gh) (gc:=gc) (vn:=vn) (vl:=vl) (vv:=vg) hS hK.qa (hP.vals g hgm)) (next:=λb hb=>?_);cases b with
  |false=>
   refine go ?_;exact ae 190 (hv:=rfl) (hp:=hend λh=>by have:=hb.2 (h.right g hgm);cases this)
  |true=>
  have hR:=hb.1 rfl;have U7:∀x∈p.take (j+1),yB k x:=by
   rw[htk];intro x hx;rcases dV.1 hx with hx|hx
   ·exact hall x hx
   ·rw[bH.1 hx];exact hR
  refine go ?_;first|with_reducible refine aN (λh3=>?_) (λh3=>?_)|with_reducible refine aM (λh3=>?_) (λh3=>?_)|with_reducible refine aL (λh3=>?_) (λh3=>?_)
  ·have hj0:j=0:=by omega
   subst hj0;refine go ?_;exact aQ 1 (by show p.length - 1<p.length - 0;omega) ⟨by omega,U7,λi a b h=>by omega⟩
  obtain⟨i,rfl⟩:∃i,j=i+1:=⟨j - 1,by omega⟩
  refine go ?_;rw[show((i+1:Nat):Int) - 1=(i:Int)by omega];refine bz eF (xs:=p) (next:=λ_ _ g0 (vg0:Value) hg0=>?_);refine go ?_;refine ax (NH (a:=g0) (b:=g) (va:=vg0) (vb:=vg)) (next:=λ_ _=>?_);refine go ?_;refine aA rfl (λh4=>?_) (λh4=>?_)
  ·refine go ?_;exact ae 190 (hv:=rfl) (hp:=hend λh=>by have:=h.sorted i g0 g hg0 hg;omega)
  ·refine go ?_;refine aQ (i+1+1) (by show p.length - (i+1+1)<p.length - (i+1);omega) ⟨by omega,U7,λi' a b h ha hb=>?_⟩;by_cases e:i'=i
   ·subst e;rw[hg0]at ha;rw[hg]at hb;cases ha;cases hb;omega
   ·exact hs i' a b (by omega) ha hb
 have jO:j=p.length:=by omega
 subst jO;rw[bK]at hall;refine go ?_;exact ae 0 (hv:=rfl) (hp:=⟨λh=>absurd hK h,λ_ h=>absurd ⟨by omega,hall,λi a b ha hb=>hs i a b (bO.1 hb).1 ha hb⟩ h,λ_ _=>rfl⟩)
abbrev NL(k:bS)(grid:List Int):Prop:=Fin (k.grid.cells.length:Int) (k.decl.symbols.length:Int) grid
structure ajH(k:bS)(p:List Clue)(grid:List Int)(e:Int):Prop where
 nk:¬fT k->e=180
 nf:fT k->¬NL k grid->e=200
 np:fT k->NL k grid->¬iK k p->e=190
 ok:fT k->NL k grid->iK k p->e=0
end Go.Proofs.YtoohgkkmdnbnfaaGreatDoor
namespace Go.Proofs.YtoohgkkmdnbnfaaGreatDoor
open Go.Ideal Kd Canon
def wQ(k:bS):List Int:=k.decl.symbols.map (·.value)
structure U8(k:bS)(r:aU):Prop where
 qa:0<=r.family/\r.family<k.lists.length
 aG:r.aG<k.decl.aJ.length
end Go.Proofs.YtoohgkkmdnbnfaaGreatDoor
namespace Go.Proofs.YtoohgkkmdnbnfaaGreatDoor
open Go.Ideal Kd Canon
end Go.Proofs.YtoohgkkmdnbnfaaGreatDoor
namespace Go.Proofs.YtoohgkkmdnbnfaaGreatDoor
open Go.Ideal Kd Canon
end Go.Proofs.YtoohgkkmdnbnfaaGreatDoor
namespace Go.Proofs.YtoohgkkmdnbnfaaGreatDoor
open Go.Ideal Kd Canon
structure U9(k:bS)(p:List Clue)(grid:List Int)(r:aU)(set other:Nat):Prop where
 s:qg k
 ps:Au p
 qa:MG k
 rin:U8 k r
 right:∀g∈p,yB k g
 gri:Ub grid
 cells:∀x∈IG k p r,Uc grid x.1
 vals:Ud (wQ k) grid
 bU:j3 k.bn
 U0:grid.length=k.bn.length
 st:r.set=(set:Int)/\set<9223372036854775808
 ot:r.other=(other:Int)/\other<9223372036854775808
 kind:1<=r.kind/\r.kind<=11
 giv:r.kind=2\/r.kind=3\/r.kind=11->∀x∈IG k p r,0<x.2.length
 few:∀x∈IG k p r,x.1.length<=4096
 one:r.kind=11->∀x∈IG k p r,0<x.1.length
theorem Va{l:List Int}{y:Int}(h:l[0]? =some y):l.getD 0 0=y:=uI h
section
variable {k:bS} {p:List Clue} {grid:List Int} {r:aU} {set other:Nat} {bv br:Nat} {vh vs vr vc vu gh gc vn vl vp vg vv v1 v2:Value}
theorem U9.bn(H:U9 k p grid r set other):∀l∈k.bn,∀b∈l,0<=b/\b<grid.length:=by
 intro l hl b hb;obtain⟨i,hi⟩:=lH hl;obtain⟨j,hj⟩:=lH hb;have:=H.bU.ok i l hi j b hj;have:=H.U0;omega
end
end Go.Proofs.YtoohgkkmdnbnfaaGreatDoor
namespace Go.Proofs.YtoohgkkmdnbnfaaGreatDoor
open Go.Ideal Kd Canon
end Go.Proofs.YtoohgkkmdnbnfaaGreatDoor
namespace Go.Proofs.YtoohgkkmdnbnfaaGreatDoor
open Go.Ideal Kd Canon
theorem agi{k:Int}(h:(fQ k).read=true):1<=k/\k<=11:=by
 apply Classical.byContradiction;intro hn;have hc:(k<0\/14<=k)\/k=0\/k=12\/k=13:=by omega
 rcases hc with hc|rfl|rfl|rfl
 ·rw[Ct hc]at h;cases h
 ·cases h
 ·cases h
 ·cases h
theorem fT.uJ{k:bS}(h:fT k){r:aU}(hr:r∈k.decl.rules):∃q∈k.decl.rules,r=mh (bP k.decl) (bW k.decl) (dK k.decl) q:=by
 have h1:r∈(Kd.bF k.decl).rules:=by rw[<- h.decl];exact hr
 obtain⟨q,hq,e⟩:=fo.1 (show r∈k.decl.rules.map (mh (bP k.decl) (bW k.decl) (dK k.decl))from h1);exact⟨q,hq,e.symm⟩
theorem fT.iE{k:bS}(h:fT k):k.lists.length=8+k.decl.regions.length:=by
 rw[h.lists];unfold kV;rw[fA,bR,bR,Da]
theorem fT.bU{k:bS}(h:fT k):fq (aO k.decl):=⟨h.typ.Cu,rfl⟩
theorem fT.inr{k:bS}(h:fT k){r:aU}(hr:r∈k.decl.rules):U8 k r:=by
 obtain⟨q,hq,rfl⟩:=h.uJ hr;have hro:=h.b.rs.uJ q hq;have hl:=h.iE;have hfl:(bW k.decl).length=8+k.decl.regions.length:=by
  unfold bW;rw[fA,bR];rfl
 refine⟨?_,?_⟩
 ·show 0<=(if q.on=⟨⟨[]⟩⟩then(0:Int)else(dS q.on (bW k.decl):Int))/\(if q.on=⟨⟨[]⟩⟩then(0:Int)else(dS q.on (bW k.decl):Int))<_;by_cases e:q.on=⟨⟨[]⟩⟩
  ·rw[if_pos e];omega
  ·rw[if_neg e];have:=yu (hro.on.resolve_left e);omega
 ·show(if q.bZ=⟨⟨[]⟩⟩then(-1:Int)else(dS q.bZ (dK k.decl):Int))<_;by_cases e:q.bZ=⟨⟨[]⟩⟩
  ·rw[if_pos e];omega
  ·rw[if_neg e];have h1:=yu (hro.bZ.resolve_left e);have h2:(dK k.decl).length=k.decl.aJ.length:=by unfold dK;rw[bR]
   omega
end Go.Proofs.YtoohgkkmdnbnfaaGreatDoor
namespace Go.Proofs.YtoohgkkmdnbnfaaGreatDoor
open Go.Ideal Kd Canon
structure Cz(k:bS):Prop where
 dw:jU k.decl.w
 dh:jU k.decl.h
 gw:jU k.grid.w
 gh:jU k.grid.h
 holes:k.decl.holes.length<9223372036854775808
 dP:k.decl.symbols.length<9223372036854775808
 regs:k.decl.regions.length<9223372036854775808
 qN:∀r∈k.decl.regions,r.lists.length<9223372036854775808/\∀l∈r.lists,l.length<9223372036854775808
 jv:k.decl.aJ.length<9223372036854775808
 kG:k.decl.rules.length<9223372036854775808
 qM:∀r∈k.decl.rules,r.names.length<9223372036854775808/\r.others.length<9223372036854775808
 Jg:k.grid.holes.length<9223372036854775808
 cells:k.grid.cells.length<9223372036854775808
 bn:k.bn.length<9223372036854775808/\∀l∈k.bn,l.length<9223372036854775808
 lists:k.lists.length<9223372036854775808/\∀l∈k.lists,l.length<9223372036854775808/\∀m∈l,m.length<9223372036854775808
structure agj(k:bS):Prop where
 cells:k.grid.cells.length<=16
 Jg:k.grid.holes.length<=256
 bn:k.bn.length<=20
 lists:k.lists.length<=12
 dP:k.decl.symbols.length<=6
 regs:k.decl.regions.length<=6
 jv:k.decl.aJ.length<=6
 kG:k.decl.rules.length<=10
 holes:k.decl.holes.length<=256
 each:∀l∈k.lists,l.length<=40
 reg:∀r∈k.decl.regions,r.lists.length<=20
theorem qg.of{k:bS}(hB:Cz k)(hF:agj k):qg k:=by
 have f1:=hF.cells;have f2:=hF.Jg;have f5:=hF.dP;have f6:=hF.regs;have f7:=hF.jv;have f8:=hF.kG;have f9:=hF.holes;exact⟨⟨⟨by omega,by omega,by omega,by omega,hB.qM,hB.holes,hB.qN⟩,hB.dw,hB.dh,by omega⟩,⟨hB.gw,hB.gh,by omega,by omega⟩,hB.bn,hB.lists⟩
end Go.Proofs.YtoohgkkmdnbnfaaGreatDoor
namespace Go.Proofs.YtoohgkkmdnbnfaaGreatDoor
open Go.Ideal Kd Canon
noncomputable def NM:gN:=⟨27,[(.tmp 4)],(.seq (.ops [4] [⟨⟨(some 4),none,(.jc (.const (.slice none 0 0)))⟩,[]⟩]) (.seq (.seq (.ops [5,6] [⟨⟨(some 5),none,(.mv (.tmp 1))⟩,[]⟩,⟨⟨(some 6),none,(.bin .lss 3 (.tmp 5) (.const (.int .i64 0)))⟩,[]⟩]) (.cond (.tmp 6) (.ops [7] [⟨⟨(some 7),none,(.iface 9 (.const (.string ⟨⟨[99,97,110,110,111,116,32,98,101,32,110,101,103,97,116,105,118,101]⟩⟩)))⟩,[]⟩,⟨⟨none,none,(.panic (.tmp 7))⟩,[]⟩]) .skip)) (.seq (.seq (.ops [8,9,10,11,12,13,14,1] [⟨⟨(some 8),none,(.mv (.tmp 1))⟩,[]⟩,⟨⟨(some 9),none,(.mv (.tmp 0))⟩,[]⟩,⟨⟨(some 10),none,(.Dh (.tmp 9))⟩,[]⟩,⟨⟨(some 11),none,(.mv (.tmp 0))⟩,[]⟩,⟨⟨(some 12),none,(.pG (.tmp 11))⟩,[]⟩,⟨⟨(some 13),none,(.bin .sub 3 (.tmp 10) (.tmp 12))⟩,[]⟩,⟨⟨(some 14),none,(.bin .sub 3 (.tmp 8) (.tmp 13))⟩,[]⟩,⟨⟨(some 1),none,(.jc (.tmp 14))⟩,[]⟩]) (.seq (.ops [15,16] [⟨⟨(some 15),none,(.mv (.tmp 1))⟩,[]⟩,⟨⟨(some 16),none,(.bin .gtr 3 (.tmp 15) (.const (.int .i64 0)))⟩,[]⟩]) (.cond (.tmp 16) (.ops [17,18,19,20,21,22,23,24,25,0] [⟨⟨(some 17),none,(.mv (.tmp 0))⟩,[]⟩,⟨⟨(some 18),none,(.mv (.tmp 0))⟩,[]⟩,⟨⟨(some 19),none,(.Dh (.tmp 18))⟩,[]⟩,⟨⟨(some 20),none,(.vw 3 (.tmp 17) none (some (.tmp 19)) none)⟩,[]⟩,⟨⟨(some 21),none,(.mv (.tmp 1))⟩,[]⟩,⟨⟨(some 22),none,(.A7 59 3 40 [(.int .i64 0),(.int .i64 0),(.slice none 0 0)] (.tmp 20) (.tmp 21))⟩,[]⟩,⟨⟨(some 23),none,(.mv (.tmp 0))⟩,[]⟩,⟨⟨(some 24),none,(.pG (.tmp 23))⟩,[]⟩,⟨⟨(some 25),none,(.vw 3 (.tmp 22) none (some (.tmp 24)) none)⟩,[]⟩,⟨⟨(some 0),none,(.jc (.tmp 25))⟩,[]⟩]) .skip))) (.seq (.ops [26,4] [⟨⟨(some 26),none,(.mv (.tmp 0))⟩,[]⟩,⟨⟨(some 4),none,(.jc (.tmp 26))⟩,[]⟩]) .ret))))⟩
theorem Vb:kZ Tryz.prog 66=some NM:=by kernel_rfl
noncomputable def Vd:gN:=⟨36,[(.tmp 2)],(.seq (.ops [2] [⟨⟨(some 2),none,(.jc (.const (.slice none 0 0)))⟩,[]⟩]) (.seq (.ops [3] [⟨⟨(some 3),none,(.jc (.const (.int .i64 0)))⟩,[]⟩]) (.seq (.seq (.ops [9,10,11] [⟨⟨(some 9),none,(.mv (.tmp 0))⟩,[]⟩,⟨⟨(some 10),none,(.pG (.tmp 9))⟩,[]⟩,⟨⟨(some 11),none,(.mv (.const (.int .i64 0)))⟩,[]⟩]) (.block 0 (.loop (.seq (.ops [12] [⟨⟨(some 12),none,(.bin .lss 3 (.tmp 11) (.tmp 10))⟩,[]⟩]) (.seq (.cond (.tmp 12) .skip (.exit 0)) (.seq (.block 1 (.seq (.ops [13,14,5] [⟨⟨(some 13),none,(.lY 1 (.tmp 9) (.tmp 11))⟩,[]⟩,⟨⟨(some 14),none,(.gK (.tmp 13))⟩,[]⟩,⟨⟨(some 5),none,(.jc (.tmp 14))⟩,[]⟩]) (.seq (.ops [15,16,17,18,3] [⟨⟨(some 15),none,(.mv (.tmp 3))⟩,[]⟩,⟨⟨(some 16),none,(.mv (.tmp 5))⟩,[]⟩,⟨⟨(some 17),none,(.pG (.tmp 16))⟩,[]⟩,⟨⟨(some 18),none,(.bin .add 3 (.tmp 15) (.tmp 17))⟩,[]⟩,⟨⟨(some 3),none,(.jc (.tmp 18))⟩,[]⟩]) (.seq (.ops [19,20] [⟨⟨(some 19),none,(.mv (.tmp 3))⟩,[]⟩,⟨⟨(some 20),none,(.bin .lss 3 (.tmp 19) (.const (.int .i64 0)))⟩,[]⟩]) (.cond (.tmp 20) (.ops [21] [⟨⟨(some 21),none,(.iface 9 (.const (.string ⟨⟨[108,101,110,32,111,117,116,32,111,102,32,114,97,110,103,101]⟩⟩)))⟩,[]⟩,⟨⟨none,none,(.panic (.tmp 21))⟩,[]⟩]) .skip))))) (.ops [22,11] [⟨⟨(some 22),none,(.bin .add 3 (.tmp 11) (.const (.int .i64 1)))⟩,[]⟩,⟨⟨(some 11),none,(.mv (.tmp 22))⟩,[]⟩]))))))) (.seq (.ops [23,24,6] [⟨⟨(some 23),none,(.mv (.tmp 3))⟩,[]⟩,⟨⟨(some 24),none,(.call (.func 66) [(.const (.slice none 0 0)),(.tmp 23)])⟩,[]⟩,⟨⟨(some 6),none,(.jc (.tmp 24))⟩,[]⟩]) (.seq (.seq (.ops [25,26,27] [⟨⟨(some 25),none,(.mv (.tmp 0))⟩,[]⟩,⟨⟨(some 26),none,(.pG (.tmp 25))⟩,[]⟩,⟨⟨(some 27),none,(.mv (.const (.int .i64 0)))⟩,[]⟩]) (.block 2 (.loop (.seq (.ops [28] [⟨⟨(some 28),none,(.bin .lss 3 (.tmp 27) (.tmp 26))⟩,[]⟩]) (.seq (.cond (.tmp 28) .skip (.exit 2)) (.seq (.block 3 (.seq (.ops [29,30,8] [⟨⟨(some 29),none,(.lY 1 (.tmp 25) (.tmp 27))⟩,[]⟩,⟨⟨(some 30),none,(.gK (.tmp 29))⟩,[]⟩,⟨⟨(some 8),none,(.jc (.tmp 30))⟩,[]⟩]) (.ops [31,32,33,6] [⟨⟨(some 31),none,(.mv (.tmp 6))⟩,[]⟩,⟨⟨(some 32),none,(.mv (.tmp 8))⟩,[]⟩,⟨⟨(some 33),none,(.append 59 3 40 (.tmp 31) (.tmp 32))⟩,[]⟩,⟨⟨(some 6),none,(.jc (.tmp 33))⟩,[]⟩]))) (.ops [34,27] [⟨⟨(some 34),none,(.bin .add 3 (.tmp 27) (.const (.int .i64 1)))⟩,[]⟩,⟨⟨(some 27),none,(.mv (.tmp 34))⟩,[]⟩]))))))) (.seq (.ops [35,2] [⟨⟨(some 35),none,(.mv (.tmp 6))⟩,[]⟩,⟨⟨(some 2),none,(.jc (.tmp 35))⟩,[]⟩]) .ret))))))⟩
theorem agk:kZ Tryz.prog 35=some Vd:=by kernel_rfl
noncomputable def Ve:=sN Tryz.prog 13
theorem agl:kZ Tryz.prog 13=some Ve:=by kernel_rfl
abbrev Jh:List Value:=[.int .i64 0,.int .i64 0,.slice none 0 0]
theorem agm:dz Tryz.prog 66 [.slice none 0 0,.int .i64 0] [] (.slice none 0 0):=by
 refine aK NM Vb λB w0=>?_;refine go ?_;refine(eD rfl rfl (Mk rfl)).h ?_;refine go ?_;exact ae () (hv:=rfl) (hp:=trivial)
theorem agn{m:Nat}(h0:0<m)(hm:m<=4096):bi Tryz.prog (.func 66) [.slice none 0 0,.int .i64 (m:Int)] [] [] [] (λb:Nat=>.slice (some ⟨b,0,some 3⟩) 0 m) (λb=>[pt b (.cells (zeros Jh m))]) (λ_=>[]) (λ_=>True):=by
 refine aK NM Vb λB w0=>?_;refine go ?_;refine(eD rfl rfl (Mk rfl)).h ?_;refine go ?_;refine aA rfl (λh1=>?_) (λh1=>?_)
 rotate_left
 ·omega
 refine go ?_;refine(eD rfl rfl (Mk rfl)).h ?_;refine(eD rfl rfl (ab5 rfl rfl)).h ?_;refine go ?_;refine ab3 m h0 ⟨by omega,by omega,by omega⟩ (next:=λb=>?_) (hx:=by show Value.int .i64 _=Value.int .i64 _;congr 1);refine go ?_;refine(eD rfl rfl (ab4 (k:=2) rfl rfl)).h ?_;refine go ?_;exact ae b (hv:=rfl) (hp:=trivial)
theorem agp{b:Nat}{v1 v2:Value}{kI kv:List Clue}(hl:kI.length+kv.length<=4096):
 bi Tryz.prog (.func 35) [.slice (some ⟨b,0,some 0⟩) 2 2] [] [] [eG b 0 [v1,v2],ah eF v1 kI,ah eF v2 kv] (λv:Value=>v) (λ_=>[]) (λv=>[ah eF v (kI++kv)]) (λ_=>True):=by
 have hgn:eF.n=3:=rfl;refine aK Vd agk λB w0=>?_;refine zU eF v1 (xs:=kI) (λqh e1=>?_);refine zU eF v2 (xs:=kv) (λtV e2=>?_);have hx1:qh.length=kI.length:=by rw[<- e1,bR]
 have hx2:tV.length=kv.length:=by rw[<- e2,bR]
 refine Fa (az:=qh) (v:=v1) (E:=eF) ?_;refine Fa (az:=tV) (v:=v2) (E:=eF) ?_;refine aS (E:=eF) (v:=v1) (xs:=kI) (by simp) λa1 c1 f1=>?_;subst f1;refine aS (E:=eF) (v:=v2) (xs:=kv) (by simp) λa2 c2 f2=>?_;subst f2;refine go ?_;refine kC ?_;refine go ?_;refine kC ?_;refine go ?_;refine kC ?_;refine go ?_;by_cases hz:kI.length+kv.length=0
 ·have z1:kI.length=0:=by omega
  have z2:kv.length=0:=by omega
  have n1:kI=[]:=ji.1 z1;have n2:kv=[]:=ji.1 z2;rw[z1,z2];refine ax agm (next:=λ_ _=>?_);refine go ?_;refine kC ?_;refine go ?_;refine(eD rfl rfl (SF rfl rfl)).h ?_;refine go ?_;refine kC ?_;refine go ?_;refine(eD rfl rfl (SF rfl rfl)).h ?_;refine go ?_;refine kC ?_;refine go ?_;refine eX (ah eF (.slice none 0 0) (kI++kv)) (λw hw=>.inl ⟨by rw[n1,n2];rfl,none,0,rfl,trivial⟩) ?_;exact ae (.slice none 0 0) (hv:=rfl) (hp:=trivial)
 ·rw[show(0:Int)+(kI.length:Int)+(kv.length:Int)=((kI.length+kv.length:Nat):Int)by omega];refine ax (agn (m:=kI.length+kv.length) (by omega) hl) (next:=λbg _=>?_);have hzl:=zeros_length Jh (kI.length+kv.length);rw[show Jh.length=3 from rfl]at hzl;generalize hzz:zeros Jh (kI.length+kv.length)=zs at hzl⊢;refine go ?_;refine kC ?_;refine go ?_;rw[show zs=[]++zs from rfl];refine SE (m:=0) (f:=some 3) (cap:=kI.length+kv.length) (b:=bg) eF qh [] zs rfl (by rw[hgn];omega) (by omega) ⟨by omega,by omega,by omega⟩ ?_;rw[bX];refine go ?_;refine kC ?_;refine go ?_;have hd1:(zs.drop (qh.length*eF.n)).length=kv.length*3:=by rw[mK,hzl,hgn,hx1];omega
  refine SE (m:=0+qh.length) (f:=some 3) (cap:=kI.length+kv.length) (b:=bg) eF tV (bV eF qh) (zs.drop (qh.length*eF.n)) (by rw[wh,eT]) (by rw[hd1,hgn];omega) (by omega) ⟨by omega,by omega,by omega⟩ ?_;rw[show(zs.drop (qh.length*eF.n)).drop (tV.length*eF.n)=[]from Db (by rw[hgn]at hd1⊢;omega),gy,show bV eF qh++bV eF tV=bV eF (qh++tV)by unfold bV;rw[Gl]];rw[show 0+qh.length+tV.length=kI.length+kv.length by omega];refine rU eF (az:=qh++tV) (b:=bg) (f:=3) (m:=kI.length+kv.length) (by rw[fA];omega) (.inr rfl) ?_;refine Fb (E:=eF) (v:=.slice (some ⟨bg,0,some 3⟩) (kI.length+kv.length) (kI.length+kv.length)) (az:=qh++tV) ?_ (λw h p hp f hf=>?_)
  rotate_left
  ·rcases dV.1 hp with hp|hp
   ·exact h (p9 eF qh) (by simp) p hp f hf
   ·exact h (p9 eF tV) (by simp) p hp f hf
  rw[dW,e1,e2];refine go ?_;refine kC ?_;refine go ?_;exact ae (.slice (some ⟨bg,0,some 3⟩) (kI.length+kv.length) (kI.length+kv.length)) (hv:=rfl) (hp:=trivial)
def agq(p:List Clue)(n:Int):List Clue:=p.take n.toNat++p.drop (n.toNat+1)
structure WoY where
 v:Value
 e:Int
end Go.Proofs.YtoohgkkmdnbnfaaGreatDoor
namespace Go.Proofs.YtoohgkkmdnbnfaaGreatDoor
open Go.Ideal Kd Canon
theorem NN{v:Value}{xs:List (List Int)}(hl:xs.length<9223372036854775808)(hll:∀l∈xs,l.length<9223372036854775808):bi Tryz.prog (.func 64) [v] [] [] [ah (aj aa) v xs] (λn:Int=>.int .i64 n) (λ_=>[]) (λ_=>[]) (λn=>0<=n/\n<=2001):=by
 refine aK _ (aP 64) λB w0=>?_;refine aS (E:=aj aa) (v:=v) (xs:=xs) (by simp) λa1 c1 e1=>?_;subst e1;refine go ?_;refine aZ (λx:Nat×Int=>xs.length - x.1) (λx=>[(4,.int .i64 (x.1:Int)),(3,.int .i64 x.2)]) (λ_=>[]) (λ_=>[]) (λx=>x.1<=xs.length/\0<=x.2/\x.2<=4003) (0,0) ⟨cz _,by decide,by decide⟩ (body:=?_);rintro⟨i,n⟩ ⟨hi,h0,h1⟩;dsimp only at hi h0 h1⊢;refine go ?_;first|with_reducible refine aN (λh2=>?_) (λh2=>?_)|with_reducible refine aM (λh2=>?_) (λh2=>?_)|with_reducible refine aL (λh2=>?_) (λh2=>?_)
 ·refine go ?_;refine(eD rfl rfl (H7 rfl rfl)).h ?_;refine go ?_;exact ae (min n 2001) (hv:=rfl) (hp:=by omega)
 refine go ?_;refine aA rfl (λh3=>?_) (λh3=>?_)
 rotate_left
 ·refine go ?_;refine(eD rfl rfl (H7 rfl rfl)).h ?_;refine go ?_;exact ae (min n 2001) (hv:=rfl) (hp:=by omega)
 refine go ?_;refine(eD rfl rfl (H7 rfl rfl)).h ?_;refine go ?_;refine bz (aj aa) (xs:=xs) (next:=λ_ _ x (vx:Value) hx=>?_);refine go ?_;refine(eD rfl rfl (H7 rfl rfl)).h ?_;refine go ?_;exact aQ (i+1,min n 2001+1+min (x.length:Int) 2001) (by show xs.length - (i+1)<xs.length - i;omega) ⟨by dsimp only;omega,by dsimp only;omega,by dsimp only;omega⟩
structure NP(d:bE):Prop where
 holes:d.holes.length<=40
 dP:d.symbols.length<=20
 regs:d.regions.length<=8
 jv:d.aJ.length<=8
 kG:d.rules.length<=20
theorem Vf{d:bE}{vh vs vr vc vu:Value}(hr:∀r∈d.regions,r.lists.length<9223372036854775808/\∀l∈r.lists,l.length<9223372036854775808)(hn:∀r∈d.rules,r.names.length<9223372036854775808/\r.others.length<9223372036854775808):
 bi Tryz.prog (.func 65) [.agg ⟨gF d vh vs vr vc vu⟩] [] [] (kT d vh vs vr vc vu) (λb:Bool=>.bool b) (λ_=>[]) (λ_=>[]) (λb=>b=true->NP d):=by
 refine aK _ (aP 65) λB w0=>?_;dsimp only[kT];refine aS (E:=eH) (v:=vr) (xs:=d.regions) (by simp) λar cr er=>?_;subst er;refine aS (E:=aY) (v:=vu) (xs:=d.rules) (by simp) λau cu eu=>?_;subst eu;refine go ?_;intro b1;refine bD (eO (b:=b1)) (h:=?_);refine go ?_;first|with_reducible refine aN (λh1=>?_) (λh1=>?_)|with_reducible refine aM (λh1=>?_) (λh1=>?_)|with_reducible refine aL (λh1=>?_) (λh1=>?_)
 rotate_left
 ·refine go ?_;exact ae false (hv:=rfl) (hp:=λh=>by cases h)
 refine go ?_;first|with_reducible refine aN (λh2=>?_) (λh2=>?_)|with_reducible refine aM (λh2=>?_) (λh2=>?_)|with_reducible refine aL (λh2=>?_) (λh2=>?_)
 rotate_left
 ·refine go ?_;exact ae false (hv:=rfl) (hp:=λh=>by cases h)
 refine go ?_;first|with_reducible refine aN (λh3=>?_) (λh3=>?_)|with_reducible refine aM (λh3=>?_) (λh3=>?_)|with_reducible refine aL (λh3=>?_) (λh3=>?_)
 rotate_left
 ·refine go ?_;exact ae false (hv:=rfl) (hp:=λh=>by cases h)
 refine go ?_;first|with_reducible refine aN (λh4=>?_) (λh4=>?_)|with_reducible refine aM (λh4=>?_) (λh4=>?_)|with_reducible refine aL (λh4=>?_) (λh4=>?_)
 rotate_left
 ·refine go ?_;exact ae false (hv:=rfl) (hp:=λh=>by cases h)
 refine go ?_;refine aA rfl (λh5=>?_) (λh5=>?_)
 ·refine go ?_;exact ae false (hv:=rfl) (hp:=λh=>by cases h)
 have hD:NP d:=⟨by omega,by omega,by omega,by omega,by omega⟩
 refine go ?_;refine aZ (λj:Nat=>d.regions.length - j) (λj=>[(3,.int .i64 (j:Int))]) (λ_=>[]) (λ_=>[]) (λj=>j<=d.regions.length) 0 (cz _) (body:=?_);intro j hj;refine go ?_;refine aA rfl (λa1=>?_) (λa1=>?_)
 ·have hx:d.regions[j]? =some (d.regions[j]'(by omega)):=cB _;generalize d.regions[j]'(by omega)=x at hx;obtain⟨hx1,hx2⟩:=hr x (bG hx);refine go ?_;refine bz eH (xs:=d.regions) (next:=λ_ _ x1 (vl1:Value) hx1=>?_);cases hx.symm.trans hx1;refine go ?_;refine aA rfl (λa2=>?_) (λa2=>?_)
  ·refine go ?_;exact ae false (hv:=rfl) (hp:=λh=>by cases h)
  refine go ?_;refine aZ (λi:Nat=>x.lists.length - i) (λi=>[(4,.int .i64 (i:Int))]) (λ_=>[]) (λ_=>[]) (λi=>i<=x.lists.length) 0 (cz _) (body:=?_);intro i hi;refine go ?_;refine bz eH (xs:=d.regions) (next:=λ_ _ x2 (vl2:Value) hx2=>?_);cases hx.symm.trans hx2;refine go ?_;refine aA rfl (λa3=>?_) (λa3=>?_)
  ·refine go ?_;refine bz eH (xs:=d.regions) (next:=λ_ _ x3 (vl3:Value) hx3=>?_);cases hx.symm.trans hx3;refine go ?_;refine bz (aj aa) (xs:=x.lists) (next:=λ_ _ l (vl4:Value) hl=>?_);refine go ?_;refine aA rfl (λa4=>?_) (λa4=>?_)
   ·refine go ?_;exact ae false (hv:=rfl) (hp:=λh=>by cases h)
   refine go ?_;exact aQ (i+1) (by show x.lists.length - (i+1)<x.lists.length - i;omega) (by show i+1<=_;omega)
  refine go ?_;exact aQ (j+1) (by show d.regions.length - (j+1)<d.regions.length - j;omega) (by show j+1<=_;omega)
 refine go ?_;refine aZ (λj:Nat=>d.rules.length - j) (λj=>[(5,.int .i64 (j:Int))]) (λ_=>[]) (λ_=>[]) (λj=>j<=d.rules.length) 0 (cz _) (body:=?_);intro j hj;refine go ?_;refine aA rfl (λa1=>?_) (λa1=>?_)
 ·have hx:d.rules[j]? =some (d.rules[j]'(by omega)):=cB _;generalize d.rules[j]'(by omega)=x at hx;obtain⟨hx1,hx2⟩:=hn x (bG hx);refine go ?_;refine bz aY (xs:=d.rules) (next:=λ_ _ x1 (w:Value×Value) hx1=>?_);cases hx.symm.trans hx1;refine go ?_;first|with_reducible refine aN (λa2=>?_) (λa2=>?_)|with_reducible refine aM (λa2=>?_) (λa2=>?_)|with_reducible refine aL (λa2=>?_) (λa2=>?_)
  rotate_left
  ·refine go ?_;exact ae false (hv:=rfl) (hp:=λh=>by cases h)
  refine go ?_;refine bz aY (xs:=d.rules) (next:=λ_ _ x2 (w2:Value×Value) hx2=>?_);cases hx.symm.trans hx2;refine go ?_;refine aA rfl (λa3=>?_) (λa3=>?_)
  ·refine go ?_;exact ae false (hv:=rfl) (hp:=λh=>by cases h)
  refine go ?_;exact aQ (j+1) (by show d.rules.length - (j+1)<d.rules.length - j;omega) (by show j+1<=_;omega)
 refine go ?_;exact ae true (hv:=rfl) (hp:=λ_=>hD)
structure NQ(k:bS):Prop where
 d:NP k.decl
 cells:k.grid.cells.length<=256
 Jg:k.grid.holes.length<=300
theorem qg.ofE{k:bS}(hB:Cz k)(hF:NQ k):qg k:=by
 have f1:=hF.cells;have f2:=hF.Jg;have f5:=hF.d.dP;have f6:=hF.d.regs;have f7:=hF.d.jv;have f8:=hF.d.kG;have f9:=hF.d.holes;exact⟨⟨⟨by omega,by omega,by omega,by omega,hB.qM,hB.holes,hB.qN⟩,hB.dw,hB.dh,by omega⟩,⟨hB.gw,hB.gh,by omega,by omega⟩,hB.bn,hB.lists⟩
theorem agu{k:bS}{vh vs vr vc vu gh gc vn vl:Value}(hB:Cz k):bi Tryz.prog (.func 34) [.agg ⟨mG k vh vs vr vc vu gh gc vn vl⟩] [] [] (nI k vh vs vr vc vu gh gc vn vl []) (λb:Bool=>.bool b) (λ_=>[]) (λ_=>[]) (λb=>b=true->NQ k):=by
 obtain⟨n1,n2⟩:=hB.bn;obtain⟨l1,l2⟩:=hB.lists;refine aK _ (aP 34) λB w0=>?_;dsimp only[nI];refine aS (E:=aj (aj aa)) (v:=vl) (xs:=k.lists) (by simp) λal cl el=>?_;subst el;refine go ?_;intro b1;refine go ?_;refine aZ (λx:Nat×Int=>k.lists.length - x.1) (λx=>[(4,.int .i64 (x.1:Int)),(3,.int .i64 x.2)]) (λ_=>[]) (λ_=>[]) (λx=>x.1<=k.lists.length/\0<=x.2/\x.2<=4001) (0,0) ⟨cz _,by decide,by decide⟩ (body:=?_);rintro⟨i,n⟩ ⟨hi,h0,h1⟩;dsimp only at hi h0 h1⊢;refine go ?_;first|with_reducible refine aN (λh2=>?_) (λh2=>?_)|with_reducible refine aM (λh2=>?_) (λh2=>?_)|with_reducible refine aL (λh2=>?_) (λh2=>?_)
 ·refine go ?_;first|with_reducible refine aN (λt1=>?_) (λt1=>?_)|with_reducible refine aM (λt1=>?_) (λt1=>?_)|with_reducible refine aL (λt1=>?_) (λt1=>?_)
  ·refine go ?_;exact ae false (hv:=rfl) (hp:=λh=>by cases h)
  refine go ?_;refine ax (NN (xs:=k.bn) n1 n2) (next:=λm hm=>?_);refine go ?_;first|with_reducible refine aN (λt2=>?_) (λt2=>?_)|with_reducible refine aM (λt2=>?_) (λt2=>?_)|with_reducible refine aL (λt2=>?_) (λt2=>?_)
  ·refine go ?_;exact ae false (hv:=rfl) (hp:=λh=>by cases h)
  refine go ?_;first|with_reducible refine aN (λt3=>?_) (λt3=>?_)|with_reducible refine aM (λt3=>?_) (λt3=>?_)|with_reducible refine aL (λt3=>?_) (λt3=>?_)
  ·refine go ?_;exact ae false (hv:=rfl) (hp:=λh=>by cases h)
  refine go ?_;first|with_reducible refine aN (λt4=>?_) (λt4=>?_)|with_reducible refine aM (λt4=>?_) (λt4=>?_)|with_reducible refine aL (λt4=>?_) (λt4=>?_)
  ·refine go ?_;exact ae false (hv:=rfl) (hp:=λh=>by cases h)
  refine go ?_;refine ax (Vf (d:=k.decl) (vh:=vh) (vs:=vs) (vr:=vr) (vc:=vc) (vu:=vu) hB.qN hB.qM) (next:=λb hb=>?_);refine go ?_;exact ae b (hv:=rfl) (hp:=λh=>⟨hb h,by omega,by omega⟩)
 refine go ?_;refine aA rfl (λh3=>?_) (λh3=>?_)
 rotate_left
 ·refine go ?_;first|with_reducible refine aN (λt1=>?_) (λt1=>?_)|with_reducible refine aM (λt1=>?_) (λt1=>?_)|with_reducible refine aL (λt1=>?_) (λt1=>?_)
  ·refine go ?_;exact ae false (hv:=rfl) (hp:=λh=>by cases h)
  refine go ?_;refine ax (NN (xs:=k.bn) n1 n2) (next:=λm hm=>?_);refine go ?_;first|with_reducible refine aN (λt2=>?_) (λt2=>?_)|with_reducible refine aM (λt2=>?_) (λt2=>?_)|with_reducible refine aL (λt2=>?_) (λt2=>?_)
  ·refine go ?_;exact ae false (hv:=rfl) (hp:=λh=>by cases h)
  refine go ?_;first|with_reducible refine aN (λt3=>?_) (λt3=>?_)|with_reducible refine aM (λt3=>?_) (λt3=>?_)|with_reducible refine aL (λt3=>?_) (λt3=>?_)
  ·refine go ?_;exact ae false (hv:=rfl) (hp:=λh=>by cases h)
  refine go ?_;first|with_reducible refine aN (λt4=>?_) (λt4=>?_)|with_reducible refine aM (λt4=>?_) (λt4=>?_)|with_reducible refine aL (λt4=>?_) (λt4=>?_)
  ·refine go ?_;exact ae false (hv:=rfl) (hp:=λh=>by cases h)
  refine go ?_;refine ax (Vf (d:=k.decl) (vh:=vh) (vs:=vs) (vr:=vr) (vc:=vc) (vu:=vu) hB.qN hB.qM) (next:=λb hb=>?_);refine go ?_;exact ae b (hv:=rfl) (hp:=λh=>⟨hb h,by omega,by omega⟩)
 refine go ?_;refine bz (aj (aj aa)) (xs:=k.lists) (next:=λ_ _ x (vx:Value) hx=>?_);obtain⟨x1,x2⟩:=l2 x (bG hx);refine go ?_;refine ax (NN (xs:=x) x1 x2) (next:=λm hm=>?_);refine go ?_;exact aQ (i+1,n+m) (by show k.lists.length - (i+1)<k.lists.length - i;omega) ⟨by dsimp only;omega,by dsimp only;omega,by dsimp only;omega⟩
theorem agv{k:bS}{p:List Clue}{vh vs vr vc vu gh gc vn vl vp:Value}(hB:Cz k)(hp:p.length<9223372036854775808):
 bi Tryz.prog (.func 11) [.agg ⟨mG k vh vs vr vc vu gh gc vn vl⟩,.agg ⟨[vp]⟩] [] [] (ah eF vp p::nI k vh vs vr vc vu gh gc vn vl []) (λb:Bool=>.bool b) (λ_=>[]) (λ_=>[]) (λb=>b=true->NQ k/\k.grid.cells.length<=16/\p.length<=60/\∀g∈p,g.values.length<=20):=by
 refine aK _ (aP 11) λB w0=>?_;dsimp only[nI];refine go ?_;intro b2 b3;refine go ?_;refine ax (agu (k:=k) (vh:=vh) (vs:=vs) (vr:=vr) (vc:=vc) (vu:=vu) (gh:=gh) (gc:=gc) (vn:=vn) (vl:=vl) hB) (next:=λb hb=>?_);cases b with
 |false=>
  refine go ?_;exact ae false (hv:=rfl) (hp:=λh=>by cases h)
 |true=>
 have hk:=hb rfl;refine go ?_;first|with_reducible refine aN (λh1=>?_) (λh1=>?_)|with_reducible refine aM (λh1=>?_) (λh1=>?_)|with_reducible refine aL (λh1=>?_) (λh1=>?_)
 ·refine go ?_;exact ae false (hv:=rfl) (hp:=λh=>by cases h)
 refine go ?_;first|with_reducible refine aN (λh2=>?_) (λh2=>?_)|with_reducible refine aM (λh2=>?_) (λh2=>?_)|with_reducible refine aL (λh2=>?_) (λh2=>?_)
 ·refine go ?_;exact ae false (hv:=rfl) (hp:=λh=>by cases h)
 refine go ?_;refine ax (agb (xs:=p) (va:=vp) hp) (next:=λb hb=>?_);refine go ?_;exact ae b (hv:=rfl) (hp:=λh=>⟨hk,by omega,hb h⟩)
